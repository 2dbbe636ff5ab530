/- WakeLess: for every input the law returns true, and each argument reads afterwards as it read before. Part 5. -/
import Derived.Test.YtojkhldombndpaaGreatDoorWS4
set_option linter.all false
namespace Go.Am
open Go.Proofs
open Go
variable[OO]
theorem zJy(s:ByteArray)(i:Nat)(h:i<s.size):jf s i=(s[i]'h).toNat:=by unfold jf;rw[getElem?_pos s i h];rfl
theorem lt_not(c:Nat)(k:Int)(m:Nat)(h:k=m):decide (((c:Nat):Int)<k)=!decide (m<=c):=by
 subst h;by_cases h:m<=c
 ·simp[h]
 ·simp[h];omega
theorem gt_not(c:Nat)(k:Int)(m:Nat)(h:k=m):decide (((c:Nat):Int)>k)=!decide (c<=m):=by
 subst h;by_cases h:c<=m
 ·simp[h]
 ·simp[h];omega
theorem zFB(c:Nat)(k:Int)(m:Nat)(h:k=m):(((c:Nat):Int) == k)=(c == m):=by
 subst h;by_cases h:c=m
 ·subst h;simp
 ·have h1:(c == m)=false:=beq_eq_false_iff_ne.2 h;have h2:(((c:Nat):Int) == (m:Int))=false:=beq_eq_false_iff_ne.2 (by omega)
  rw[h1,h2]
theorem zIK(c:Nat)(k:Int)(m:Nat)(h:k=m):bne ((c:Nat):Int) k=!(c == m):=by unfold bne;rw[zFB c k m h]
theorem ge_is(c:Nat)(k:Int)(m:Nat)(h:k=m):decide (((c:Nat):Int)>=k)=decide (m<=c):=decide_eq_decide.2 (by omega)
theorem le_is(c:Nat)(k:Int)(m:Nat)(h:k=m):decide (((c:Nat):Int)<=k)=decide (c<=m):=decide_eq_decide.2 (by omega)
theorem l130(s:ByteArray)(hs:s.size<=1000):∀i,i<=s.size->Jn s i=some (.val (.bool (Y6 s i (s.size - i)))):=by
 apply down
 ·rw[zFp];simp[Y6]
 ·intro i hi ih;have e:s.size - i=(s.size - (i+1))+1:=by omega
  rw[zFp,e,Y6,wr ((i:Int)+1) (by omega)]
  have e1:(i:Int)<s.size:=by omega
  have e2:((i:Int)+1)=((i+1:Nat):Int):=by omega
  rw[e2,ih];have e3:(UInt8.toNat (Option.getD (s)[(Int.toNat (i:Int))]? (0:UInt8)))=jf s i:=by simp[jf]
  rw[e3];have g1:=ge_is (jf s i) 97 97 rfl;have g2:=ge_is (jf s i) 65 65 rfl;have l1:=le_is (jf s i) 122 122 rfl;have l2:=le_is (jf s i) 90 90 rfl;have t1:=lt_not (jf s i) 48 48 rfl;have t2:=gt_not (jf s i) 57 57 rfl;have bn:=zIK (jf s i) 95 95 rfl;have z:=zFB i 0 0 rfl;have e4:decide ((0:Int)<=(i:Int)/\(i:Int)<((s.size:Nat):Int))=true:=by simp;omega
  have e5:decide ((i:Int)<((s.size:Nat):Int))=true:=by simp;omega
  simp only[e4,e5,zF,g1,g2,l1,l2,t1,t2,bn,z,okAt];generalize Y6 s (i+1) (s.size - (i+1))=r;generalize decide (97<=jf s i)=b1;generalize decide (65<=jf s i)=b2;generalize decide (jf s i<=122)=b3;generalize decide (jf s i<=90)=b4;generalize decide (48<=jf s i)=b5;generalize decide (jf s i<=57)=b6;generalize (jf s i == 95)=b7;generalize (i == 0)=b8;cases b1 <;> cases b2 <;> cases b3 <;> cases b4 <;> cases b5 <;> cases b6 <;> cases b7 <;> cases b8 <;> rfl
theorem c130(s:ByteArray):zB 130 [.str s]=some (.val (.bool (jO s))):=by
 rw[C130];simp only[zX,zBH];by_cases h0:s.size=0
 ·have hn:jO s=false:=by unfold jO;rw[decide_eq_false (show ¬0<s.size by omega)];rfl
  rw[hn];simp[h0]
 ·by_cases h1:s.size<=24
  ·have h2:¬((s.size:Int)>24):=by omega
   have h3:¬((s.size:Int)=0):=by omega
   have h4:0<s.size:=by omega
   have:=l130 s (by omega) 0 (Nat.zero_le _)
   simp only[Int.natCast_zero] at this;have hn:jO s=Y6 s 0 s.size:=by unfold jO;rw[decide_eq_true h4,decide_eq_true h1];rfl
   have h5:s≠ByteArray.empty:=by rintro rfl;simp at h0
   rw[hn];simp[h2,h5,this]
  ·have h2:((s.size:Int)>24):=by omega
   have h5:s≠ByteArray.empty:=by rintro rfl;simp at h0
   simp[h2,h5,jO,h1]
theorem dec_low(s:ByteArray)(i:Nat)(h:i<s.size)(ha:jf s i<128):Utf8.decode s i=(jf s i,1):=by rw[zJy s i h] at ha ⊢;exact decode_ascii s i h ha
theorem dec_high(s:ByteArray)(i:Nat)(h:i<s.size)(ha:128<=jf s i):128<=(Utf8.decode s i).1:=by rw[zJy s i h] at ha;exact(decode_high s i h ha).1
theorem zGz(s:ByteArray):s.toList.length=s.size:=by rw[ByteArray.toList_eq];rfl
theorem l279(s:ByteArray)(hz:0<s.size):∀i,i<=s.size->JQ s i=some (.val (.bool (Y6 s i (s.size - i)))):=by
 apply down
 ·rw[zBv];have:s.toList≠[]:=by intro h;have:=zGz s;rw[h] at this;simp at this;omega
  simp[Y6,this]
 ·intro i hi ih;have e:s.size - i=(s.size - (i+1))+1:=by omega
  rw[zBv,e,Y6];have e1:decide (i<s.size)=true:=by simp[hi]
  by_cases hb:jf s i<128
  ·rw[dec_low s i hi hb];simp only;rw[ih];have g1:=ge_is (jf s i) 97 97 rfl;have g2:=ge_is (jf s i) 65 65 rfl;have l1:=le_is (jf s i) 122 122 rfl;have l2:=le_is (jf s i) 90 90 rfl;have t1:=lt_not (jf s i) 48 48 rfl;have t2:=gt_not (jf s i) 57 57 rfl;have bn:=zIK (jf s i) 95 95 rfl;have z:=zFB i 0 0 rfl;simp only[e1,zF,g1,g2,l1,l2,t1,t2,bn,z,okAt];generalize Y6 s (i+1) (s.size - (i+1))=r;generalize decide (97<=jf s i)=b1;generalize decide (65<=jf s i)=b2;generalize decide (jf s i<=122)=b3;generalize decide (jf s i<=90)=b4;generalize decide (48<=jf s i)=b5;generalize decide (jf s i<=57)=b6;generalize (jf s i == 95)=b7;generalize (i == 0)=b8;cases b1 <;> cases b2 <;> cases b3 <;> cases b4 <;> cases b5 <;> cases b6 <;> cases b7 <;> cases b8 <;> rfl
  ·have hh:=dec_high s i hi (by omega)
   generalize Utf8.decode s i=d at hh ⊢;have g1:decide (((d.1:Nat):Int)>=97)=true:=by simp;omega
   have g2:decide (((d.1:Nat):Int)>=65)=true:=by simp;omega
   have l1:decide (((d.1:Nat):Int)<=122)=false:=by simp;omega
   have l2:decide (((d.1:Nat):Int)<=90)=false:=by simp;omega
   have t1:decide (((d.1:Nat):Int)<48)=false:=by simp;omega
   have t2:decide (((d.1:Nat):Int)>57)=true:=by simp;omega
   have bn:bne ((d.1:Nat):Int) 95=true:=by rw[zIK d.1 95 95 rfl];simp;omega
   have z:=zFB i 0 0 rfl;have hok:okAt i (jf s i)=false:=by simp[okAt];omega
   simp only[e1,zF,zT,g1,g2,l1,l2,t1,t2,bn,z,hok,Bool.false_and,Bool.not_false];generalize (i == 0)=b8;cases b8 <;> rfl
theorem c279(s:ByteArray):zB 279 [.str s]=some (.val (.bool (jO s))):=by
 rw[C279];simp only[zX];by_cases h1:s.size<=24
 ·have h2:¬((s.size:Int)>24):=by omega
  by_cases h0:s.size=0
  ·have hl:s.toList=[]:=List.eq_nil_of_length_eq_zero (by rw[zGz];exact h0)
   have hn:jO s=false:=by unfold jO;rw[decide_eq_false (show ¬0<s.size by omega)];rfl
   have e:JQ s 0=some (.val (.bool false)):=by rw[zBv];simp[h0,hl]
   rw[hn];simp[h2,e]
  ·have h4:0<s.size:=by omega
   have hn:jO s=Y6 s 0 s.size:=by unfold jO;rw[decide_eq_true h4,decide_eq_true h1];rfl
   rw[hn];simp[h2,l279 s h4 0 (Nat.zero_le _)]
 ·have h2:((s.size:Int)>24):=by omega
  simp[h2,jO,h1]
@[simp] theorem c224(s:ByteArray):zB 224 [.str s]=some (.val (eI (if jO s then 0 else 8))):=by rw[C224];simp[c279];cases jO s <;> simp
end Go.Am
namespace Go.Am
open Go.Proofs
open Go
variable[OO]
theorem l134(l:List Int)(hl:l.length<=4611686018427387904):∀i,i<=l.length->zFo (l.map eI) l.length i=some (.val (eI (zO (l.drop i)))):=by
 apply down
 ·rw[zFn];simp[zO]
 ·intro i hi ih;rw[zFn,zi l i hi];have e1:(i:Int)<l.length:=by omega
  simp[e1,zP _ l i hi,jE,zO,wr (i+1) (by omega)]
  split
  ·exact_mod_cast ih
  ·rfl
@[simp] theorem c134(l:List Int)(hl:l.length<=4611686018427387904):zB 134 [.sl 1 (l.map eI)]=some (.val (eI (zO l))):=by rw[C134];simpa using l134 l hl 0 (Nat.zero_le _)
theorem l35(l:List Int)(hl:l.length<=4611686018427387904):∀i,i<=l.length->zIj (l.map eI) i=some (.val (eI (zO (l.drop i)))):=by
 apply down
 ·rw[zHe];simp[zO]
 ·intro i hi ih;rw[zHe,zi l i hi];have e1:(i:Int)<l.length:=by omega
  simp[e1,zP _ l i hi,jE,zO,wr (i+1) (by omega)]
  split
  ·exact_mod_cast ih
  ·rfl
@[simp] theorem c35(l:List Int)(hl:l.length<=4611686018427387904):zB 35 [.sl 1 (l.map eI)]=some (.val (eI (zO l))):=by rw[C35];simpa using l35 l hl 0 (Nat.zero_le _)
@[simp] theorem zAP(a b:Int):zB 148 [.sl 1 [eI a,eI b]]=some (.val (eI (zO [a,b]))):=c148 [a,b] (by simp)
@[simp] theorem c148_3(a b c:Int):zB 148 [.sl 1 [eI a,eI b,eI c]]=some (.val (eI (zO [a,b,c]))):=c148 [a,b,c] (by simp)
@[simp] theorem c148_4(a b c d:Int):zB 148 [.sl 1 [eI a,eI b,eI c,eI d]]=some (.val (eI (zO [a,b,c,d]))):=c148 [a,b,c,d] (by simp)
@[simp] theorem c134_2(a b:Int):zB 134 [.sl 1 [eI a,eI b]]=some (.val (eI (zO [a,b]))):=c134 [a,b] (by simp)
@[simp] theorem c134_3(a b c:Int):zB 134 [.sl 1 [eI a,eI b,eI c]]=some (.val (eI (zO [a,b,c]))):=c134 [a,b,c] (by simp)
@[simp] theorem c35_2(a b:Int):zB 35 [.sl 1 [eI a,eI b]]=some (.val (eI (zO [a,b]))):=c35 [a,b] (by simp)
@[simp] theorem c35_4(a b c d:Int):zB 35 [.sl 1 [eI a,eI b,eI c,eI d]]=some (.val (eI (zO [a,b,c,d]))):=c35 [a,b,c,d] (by simp)
theorem zIR(p:Pt):ptE p=0 ↔ YG p:=by unfold ptE YG zO zZ;by_cases h1:p.x < -1000\/p.x>1000 <;> by_cases h2:p.y < -1000\/p.y>1000 <;> simp[h1,h2,zO] <;> omega
theorem ptE_or(p:Pt):ptE p=0\/ptE p=3:=by unfold ptE zO zZ;by_cases h1:p.x < -1000\/p.x>1000 <;> by_cases h2:p.y < -1000\/p.y>1000 <;> simp[h1,h2,zO]
theorem Ys(d k:Int)(h:-k<=d)(h':d<=k):0<=d * d/\d * d<=k * k:=by
 by_cases hd:0<=d
 ·exact⟨Int.mul_nonneg hd hd,Int.mul_le_mul h' h' hd (by omega)⟩
 ·have h1:=Int.mul_nonneg (a:=-d) (b:=-d) (by omega) (by omega)
  have h2:=Int.mul_le_mul (a:=-d) (b:=-d) (c:=k) (d:=k) (by omega) (by omega) (by omega) (by omega)
  rw[Int.neg_mul_neg] at h1 h2;exact⟨h1,h2⟩
@[simp] theorem c168(p:Pt):zB 168 [ePt p]=some (.val (eI (ptE p))):=by rw[C168];simp[ptE]
@[simp] theorem c239(p:Pt):zB 239 [ePt p]=some (.val (eI (ptE p))):=by rw[C239];simp[ptE]
@[simp] theorem c164(p:Pt):zB 164 [ePt p]=some (.val (eI (ptE p))):=by rw[C164];simp[ptE]
theorem apart_fit(a b:Pt)(ha:YG a)(hb:YG b):0<=js a b/\js a b<=8000000:=by
 obtain⟨a1,a2,a3,a4⟩:=ha;obtain⟨b1,b2,b3,b4⟩:=hb;have h1:=Ys (a.x - b.x) 2000 (by omega) (by omega)
 have h2:=Ys (a.y - b.y) 2000 (by omega) (by omega)
 unfold js;omega
theorem c192(a b:Pt)(ha:YG a)(hb:YG b):zB 192 [ePt a,ePt b]=some (.val (eI (js a b))):=by
 obtain⟨a1,a2,a3,a4⟩:=ha;obtain⟨b1,b2,b3,b4⟩:=hb;have h1:=Ys (a.x - b.x) 2000 (by omega) (by omega)
 have h2:=Ys (a.y - b.y) 2000 (by omega) (by omega)
 rw[C192];simp only[zL,h141,zN,Bool.and_self,zF,zV,zY,zb,zK];rw[wr (a.x - b.x) (by omega),wr (a.y - b.y) (by omega),wr ((a.x - b.x) * (a.x - b.x)) (by omega),wr ((a.y - b.y) * (a.y - b.y)) (by omega),wr _ (by omega)]
 rfl
theorem c240(a b:Pt)(ha:YG a)(hb:YG b):zB 240 [ePt a,ePt b]=some (.val (eI (js a b))):=by
 obtain⟨a1,a2,a3,a4⟩:=ha;obtain⟨b1,b2,b3,b4⟩:=hb;have h1:=Ys (a.x - b.x) 2000 (by omega) (by omega)
 have h2:=Ys (a.y - b.y) 2000 (by omega) (by omega)
 rw[C240];simp only[zL,h141,zN,Bool.and_self,zF,zV,zY,zb,zK];rw[wr (a.x - b.x) (by omega),wr (a.y - b.y) (by omega),wr ((a.x - b.x) * (a.x - b.x)) (by omega),wr ((a.y - b.y) * (a.y - b.y)) (by omega),wr _ (by omega)]
 rfl
theorem qB(a b:ByteArray):(a.toList == b.toList)=decide (a=b):=by
 by_cases h:a=b
 ·subst h;simp
 ·have:a.toList≠b.toList:=λe=>h (WideShapes.bytes_inj (by rw[<-ByteArray.toList_eq,<-ByteArray.toList_eq];exact e))
  rw[decide_eq_false h];exact beq_eq_false_iff_ne.2 this
theorem zHC(n k:ByteArray)(ks:List ByteArray):qw n (k :: ks)=(decide (n=k) || qw n ks):=rfl
theorem zDH(n:ByteArray):∀(ks:List ByteArray),ja (.str n) (ks.map .str) (List.replicate ks.length (.bool true))=some (if qw n ks then some (.bool true) else none)
 | []=>rfl
 | k :: ks=>by
  simp only[List.map_cons,List.length_cons,List.replicate_succ,ja,jy,qB,zG];by_cases h:n=k
  ·simp[h,qw]
  ·have e:qw n (k :: ks)=qw n ks:=by simp[qw,h]
   rw[e];simp only[decide_eq_false h,zDH n ks]
theorem zJT(n:ByteArray):∀(ks:List ByteArray),qw n ks=false->Yz (.str n) (.bool true) (ks.map .str) (List.replicate ks.length (.bool true))=some ((ks++[n]).map .str,List.replicate (ks++[n]).length (.bool true))
 | [],_=>rfl
 | k :: ks,h=>by simp only[qw,List.any_cons,Bool.or_eq_false_iff] at h;have h1:¬n=k:=of_decide_eq_false h.1;simp only[List.map_cons,List.length_cons,List.replicate_succ,Yz,jy,qB,zG,decide_eq_false h1];rw[zJT n ks h.2];simp[List.replicate_succ]
theorem firstL_9(a b:Int):zO [a,b,9]≠0:=by
 unfold zO;split
 ·unfold zO;split
  ·simp[zO]
  ·assumption
 ·assumption
theorem zEw{a b c:Int}(h:zO [a,b,c]=0):b=0:=by
 unfold zO at h;split at h
 ·unfold zO at h;split at h
  ·assumption
  ·exact h
 ·rename_i h0;exact absurd h h0
theorem jH{a:Int}{l:List Int}(h:zO (a :: l)=0):a=0/\zO l=0:=by
 unfold zO at h;split at h
 ·rename_i h0;exact⟨h0,h⟩
 ·rename_i h0;exact absurd h h0
theorem l158_1(e:Int)(tbs prev:List Tb)(n i:Nat)(nm:ByteArray)(least:Int)(t:Tb)(ks vs:List DV)(hl:prev.length<=1000)(hp:∀o∈prev,YG o.at')(ht:YG t.at')(h1:1<=least)(h2:least<=1000) :
  ∀k,k<=prev.length->QA e (tbs.map eTb) n i (prev.map eTb) prev.length k nm least t.name t.at'.x t.at'.y ks vs =
   if (prev.drop k).any (λo=>decide (js t.at' o.at'<least * least)) then some (.val (eI 15)) else zAF e (tbs.map eTb) n (IntKind.i64.wrap (i+1)) nm least ks vs:=by
 apply down
 ·rw[zFf];simp
 ·intro k hk ih;have e1:(k:Int)<prev.length:=by omega
  have hb:=Ys least 1000 (by omega) h2
  have ha:=hp prev[k] (List.getElem_mem hk);have step:QA e (tbs.map eTb) n i (prev.map eTb) prev.length k nm least t.name t.at'.x t.at'.y ks vs =
    if js t.at' prev[k].at'<least * least then some (.val (eI 15)) else QA e (tbs.map eTb) n i (prev.map eTb) prev.length ((k+1:Nat):Int) nm least t.name t.at'.x t.at'.y ks vs:=by
   rw[zFf];simp only[zX];simp[e1,zP _ prev k hk,c240 t.at' prev[k].at' ht ha,wr (least * least) (by omega),wr (k+1) (by omega)]
   rfl
  rw[step,ih,zi prev k hk,List.any_cons];by_cases hd:js t.at' prev[k].at'<least * least
  ·rw[if_pos hd,decide_eq_true hd,Bool.true_or,if_pos rfl]
  ·rw[if_neg hd,decide_eq_false hd,Bool.false_or]
theorem l158_0(s:Si)(hn:s.tb.length<=64)(h1:1<=s.least)(h2:s.least<=1000) :
  ∀i,i<=s.tb.length->(∀o∈s.tb.take i,YG o.at') ->
   zAF 0 (s.tb.map eTb) s.tb.length i s.name s.least (((s.tb.take i).map (·.name)).map .str) (List.replicate ((s.tb.take i).map (·.name)).length (.bool true))=some (.val (eI (JW s.least (s.tb.take i) (s.tb.drop i)))):=by
 apply down (P:=λi=>(∀o∈s.tb.take i,YG o.at')->zAF 0 (s.tb.map eTb) s.tb.length i s.name s.least (((s.tb.take i).map (·.name)).map .str) (List.replicate ((s.tb.take i).map (·.name)).length (.bool true))=some (.val (eI (JW s.least (s.tb.take i) (s.tb.drop i)))))
 ·intro _;rw[zFg];simp[JW]
 ·intro i hi ih hp;have e1:(i:Int)<s.tb.length:=by omega
  have htk:s.tb.take (i+1)=s.tb.take i++[s.tb[i]]:=by rw[List.take_succ_eq_append_getElem hi]
  rw[zi s.tb i hi,JW];generalize hks:(s.tb.take i).map (·.name)=ks at *
  have hkl:ks.length=i:=by rw[<-hks];simp;omega
  have hkn:((s.tb.take (i+1)).map (·.name))=ks++[s.tb[i].name]:=by rw[htk,List.map_append,hks];rfl
  rw[htk] at ih;generalize he:zO [if jO s.tb[i].name then 0 else 8,ptE s.tb[i].at',if qw s.tb[i].name ks then 9 else 0]=e
  have step:zAF 0 (s.tb.map eTb) s.tb.length i s.name s.least (ks.map .str) (List.replicate ks.length (.bool true)) =
    if e=0 then QA e (s.tb.map eTb) s.tb.length i ((s.tb.take i).map eTb) (s.tb.take i).length (0:Nat) s.name s.least s.tb[i].name s.tb[i].at'.x s.tb[i].at'.y ((ks++[s.tb[i].name]).map .str) (List.replicate (ks++[s.tb[i].name]).length (.bool true))
    else some (.val (eI e)):=by
   rw[zFg];simp only[zX,jE];cases hm:qw s.tb[i].name ks with
   | true =>
    simp[hm] at he;have hne:e≠0:=by rw[<-he];exact firstL_9 _ _
    simp[e1,zP _ s.tb i hi,zDH,hm,he,hne]
   | false =>
    simp[hm] at he;simp[e1,zP _ s.tb i hi,zDH,hm,he,zJT _ _ hm,Nat.le_of_lt hi]
  rw[step];by_cases h0:e=0
  ·subst h0;have ht:YG s.tb[i].at':=(zIR _).1 (zEw he);rw[if_pos rfl,l158_1 0 s.tb (s.tb.take i) s.tb.length i s.name s.least s.tb[i] _ _ (by simp;omega) hp ht h1 h2 0 (Nat.zero_le _),List.drop_zero]
   simp only[ne_eq,not_true_eq_false,if_false];split
   ·rfl
   ·rw[wr ((i:Int)+1) (by omega)]
    have hp':∀o∈s.tb.take i++[s.tb[i]],YG o.at':=by
     intro o ho;rcases List.mem_append.1 ho with ho | ho
     ·exact hp o ho
     ·rw[List.mem_singleton.1 ho];exact ht
    have:=ih hp';rw[List.map_append,hks] at this;exact this
  ·rw[if_neg h0,if_pos h0]
theorem zAg{s:Si}(h:zO [if jO s.name then 0 else 8,zZ s.least 1 1000,if (64:Int)<s.tb.length then 5 else 0]=0):jO s.name=true/\1<=s.least/\s.least<=1000/\s.tb.length<=64:=by
 obtain⟨h1,h⟩:=jH h;obtain⟨h2,h⟩:=jH h;obtain⟨h3,h⟩:=jH h;refine⟨?_,?_,?_,?_⟩
 ·cases hn:jO s.name
  ·simp[hn] at h1
  ·rfl
 ·unfold zZ at h2;split at h2 <;> omega
 ·unfold zZ at h2;split at h2 <;> omega
 ·split at h3 <;> omega
theorem c158(s:Si):zB 158 [eSi s]=some (.val (eI (jb s))):=by
 rw[C158];simp only[jE];simp[jb];by_cases h0:zO [if jO s.name then 0 else 8,zZ s.least 1 1000,if (64:Int)<s.tb.length then 5 else 0]=0
 ·obtain⟨_,h1,h2,h3⟩:=zAg h0;have:=l158_0 s h3 h1 h2 0 (Nat.zero_le _) (by simp)
  simpa[h0] using this
 ·simp[h0]
@[simp] theorem isAg_agg(t i:Nat)(fs:List DV):jQ t i (.agg t fs)=decide (i<fs.length):=by simp[jQ]
theorem apart_comm(a b:Pt):js a b=js b a:=by
 have e:∀x y:Int,(x - y) * (x - y)=(y - x) * (y - x):=λx y=>by rw[show x - y=-(y - x) by omega,Int.neg_mul_neg]
 unfold js;rw[e a.x b.x,e a.y b.y]
theorem l69_2(s:Si)(i:Nat)(hi:i<s.tb.length)(hl:s.tb.length<=64)(hp:∀o∈s.tb.take i,YG o.at')(ht:YG s.tb[i].at')(h1:1<=s.least)(h2:s.least<=1000) :
  ∀k,k<=i->zCI i k s.name s.least (s.tb.map eTb) s.tb[i].name s.tb[i].at'.x s.tb[i].at'.y =
   if ((s.tb.take i).drop k).any (λo=>decide (js s.tb[i].at' o.at'<s.least * s.least)) then some (.val (eI 15)) else zCK ((i+1:Nat):Int) s.name s.least (s.tb.map eTb):=by
 apply down
 ·rw[zHX];simp[wr ((i:Int)+1) (by omega)]
 ·intro k hk ih;have hkl:k<s.tb.length:=by omega
  have hb:=Ys s.least 1000 (by omega) h2
  have hkt:k<(s.tb.take i).length:=by simp;omega
  have ha:=hp s.tb[k] (by rw[List.mem_take_iff_getElem];exact⟨k,by omega,rfl⟩)
  have e1:(k:Int)<i:=by omega
  have e2:(k:Int)<s.tb.length:=by omega
  have step:zCI i k s.name s.least (s.tb.map eTb) s.tb[i].name s.tb[i].at'.x s.tb[i].at'.y =
    if js s.tb[i].at' s.tb[k].at'<s.least * s.least then some (.val (eI 15)) else zCI i ((k+1:Nat):Int) s.name s.least (s.tb.map eTb) s.tb[i].name s.tb[i].at'.x s.tb[i].at'.y:=by
   rw[zHX];simp only[zX];simp[e1,e2,zP _ s.tb k hkl,c192 s.tb[k].at' s.tb[i].at' ha ht,wr (s.least * s.least) (by omega),wr (k+1) (by omega),apart_comm s.tb[k].at']
   rfl
  rw[step,ih,zi _ k hkt,List.any_cons,List.getElem_take];by_cases hd:js s.tb[i].at' s.tb[k].at'<s.least * s.least
  ·rw[if_pos hd,decide_eq_true hd,Bool.true_or,if_pos rfl]
  ·rw[if_neg hd,decide_eq_false hd,Bool.false_or]
theorem l69_1(s:Si)(i:Nat)(hi:i<s.tb.length)(hl:s.tb.length<=64) :
  ∀k,k<=i->zCJ i k s.name s.least (s.tb.map eTb) s.tb[i].name s.tb[i].at'.x s.tb[i].at'.y =
   if qw s.tb[i].name (((s.tb.take i).map (·.name)).drop k) then some (.val (eI 9)) else zCI i (0:Nat) s.name s.least (s.tb.map eTb) s.tb[i].name s.tb[i].at'.x s.tb[i].at'.y:=by
 apply down
 ·rw[zHY];simp[qw]
 ·intro k hk ih;have hkl:k<s.tb.length:=by omega
  have hkt:k<((s.tb.take i).map (·.name)).length:=by simp;omega
  have e1:(k:Int)<i:=by omega
  have e2:(k:Int)<s.tb.length:=by omega
  have step:zCJ i k s.name s.least (s.tb.map eTb) s.tb[i].name s.tb[i].at'.x s.tb[i].at'.y =
    if s.tb[i].name=s.tb[k].name then some (.val (eI 9)) else zCJ i ((k+1:Nat):Int) s.name s.least (s.tb.map eTb) s.tb[i].name s.tb[i].at'.x s.tb[i].at'.y:=by
   rw[zHY];simp only[qB,zX];simp[e1,e2,zP _ s.tb k hkl,wr (k+1) (by omega),eq_comm (a:=s.tb[k].name)]
  rw[step,ih,zi _ k hkt,zHC];simp only[List.getElem_map,List.getElem_take];by_cases hd:s.tb[i].name=s.tb[k].name
  ·rw[if_pos hd,decide_eq_true hd,Bool.true_or,if_pos rfl]
  ·rw[if_neg hd,decide_eq_false hd,Bool.false_or]
theorem l69_0(s:Si)(hl:s.tb.length<=64)(h1:1<=s.least)(h2:s.least<=1000) :
  ∀i,i<=s.tb.length->(∀o∈s.tb.take i,YG o.at')->zCK i s.name s.least (s.tb.map eTb)=some (.val (eI (JW s.least (s.tb.take i) (s.tb.drop i)))):=by
 apply down (P:=λi=>(∀o∈s.tb.take i,YG o.at')->zCK i s.name s.least (s.tb.map eTb)=some (.val (eI (JW s.least (s.tb.take i) (s.tb.drop i)))))
 ·intro _;rw[zHZ];simp[JW]
 ·intro i hi ih hp;have e1:(i:Int)<s.tb.length:=by omega
  have htk:s.tb.take (i+1)=s.tb.take i++[s.tb[i]]:=by rw[List.take_succ_eq_append_getElem hi]
  rw[zi s.tb i hi,JW];rw[htk] at ih;have step:zCK i s.name s.least (s.tb.map eTb) =
    if jO s.tb[i].name=true then (if ptE s.tb[i].at'=0 then zCJ i (0:Nat) s.name s.least (s.tb.map eTb) s.tb[i].name s.tb[i].at'.x s.tb[i].at'.y else some (.val (eI 3))) else some (.val (eI 8)):=by
   rw[zHZ];simp only[zX,jE];simp[e1,zP _ s.tb i hi,c130];cases jO s.tb[i].name
   ·simp
   ·simp only[Bool.not_true,zT,if_true];rfl
  rw[step];cases hn:jO s.tb[i].name with
  | false=>simp[zO]
  | true =>
   by_cases hq:ptE s.tb[i].at'=0
   ·have ht:YG s.tb[i].at':=(zIR _).1 hq;simp only[if_true,hq];rw[l69_1 s i hi hl 0 (Nat.zero_le _),List.drop_zero];cases hm:qw s.tb[i].name ((s.tb.take i).map (·.name)) with
    | true=>simp[zO]
    | false =>
     simp only[Bool.false_eq_true,if_false,zO,if_true,ne_eq,not_true_eq_false];rw[l69_2 s i hi hl hp ht h1 h2 0 (Nat.zero_le _),List.drop_zero];split
     ·rfl
     ·refine ih λo ho=>?_
      rcases List.mem_append.1 ho with ho | ho
      ·exact hp o ho
      ·rw[List.mem_singleton.1 ho];exact ht
   ·rcases ptE_or s.tb[i].at' with h | h
    ·exact absurd h hq
    ·simp[h,zO]
theorem c69(s:Si):zB 69 [eSi s]=some (.val (eI (jb s))):=by
 rw[C69];simp only[jE,zX];simp[jb,c130];cases hn:jO s.name with
 | false=>simp[zO]
 | true =>
  by_cases hr:zZ s.least 1 1000=0
  ·by_cases hl:(64:Int)<s.tb.length
   ·simp[hr,hl,zO]
   ·have h0:zO [if jO s.name then 0 else 8,zZ s.least 1 1000,if (64:Int)<s.tb.length then 5 else 0]=0:=by simp[zO,hn,hr,hl]
    obtain⟨_,h1,h2,h3⟩:=zAg h0;have:=l69_0 s h3 h1 h2 0 (Nat.zero_le _) (by simp)
    simpa[hr,hl,zO] using this
  ·have hr3:zZ s.least 1 1000=3:=by unfold zZ at hr ⊢;split at hr <;> simp_all
   simp[hr3,zO]
end Go.Am
namespace Go.Am
open Go.Proofs
open Go
variable[OO]
def jJ(l:List Int)(i:Nat):Option Int:=if i=0 then none else l[i - 1]?
theorem qZ(l:List Int)(i:Nat)(h:i<l.length):jJ l (i+1)=some l[i]:=by simp[jJ,h]
theorem ite_gt0(j:Nat):(if ((j:Nat):Int)>0 then ((j:Nat):Int) else 0)=(j:Int):=by split <;> omega
theorem l75_1(d w:List Int)(nm:ByteArray)(hl:w.length<=1000):∀i,i<=w.length->zBS (w.map eI) w.length i nm (d.map eI)=some (.val (eI (Ji 100 true (jJ w i) (w.drop i)))):=by
 apply down
 ·rw[zHT];simp[Ji]
 ·intro i hi ih;have e1:(i:Int)<w.length:=by omega
  rw[zi w i hi,Ji];rw[qZ w i hi] at ih;have step:zBS (w.map eI) w.length i nm (d.map eI)=if JE 100 true (jJ w i) w[i]=0 then zBS (w.map eI) w.length ((i+1:Nat):Int) nm (d.map eI) else some (.val (eI (JE 100 true (jJ w i) w[i]))):=by
   rw[zHT];simp only[zX,jE];cases i with
   | zero =>
    simp[e1,hi,zP _ w 0 hi,jJ,JE,wr 1 (by omega)]
    all_goals rfl
   | succ j =>
    have hj:j<w.length:=by omega
    have e2:(((j+1:Nat):Int) - 1)=(j:Int):=by omega
    have e3:(j:Int)<w.length:=by omega
    have e4:((j+1:Nat):Int)>0:=by omega
    have e5:((j+1:Nat):Int)<w.length:=by omega
    have e6:(0:Int)<=((j+1:Nat):Int):=by omega
    rw[e2,wr (j:Int) (by omega),ite_gt0]
    rw[wr (((j+1:Nat):Int)+1) (by omega)]
    simp only[e4,e5,e6,e3,Int.natCast_nonneg,and_self,if_true,Int.toNat_natCast,zP _ w (j+1) hi,zP _ w j hj];have e7:(j:Int)+1<w.length:=by omega
    by_cases hc:w[j+1]<w[j]
    ·simp[JE,jJ,hj,e7,hc]
     all_goals rfl
    ·simp[JE,jJ,hj,e7,hc]
     all_goals rfl
  rw[step,ih];split <;> rfl
theorem l75_0(d w:List Int)(nm:ByteArray)(hl:d.length<=1000):∀i,i<=d.length->Qj (d.map eI) d.length i nm (w.map eI)=if Ji 256 false (jJ d i) (d.drop i)=0 then zBS (w.map eI) w.length (0:Nat) nm (d.map eI) else some (.val (eI (Ji 256 false (jJ d i) (d.drop i)))):=by
 apply down
 ·rw[zHU];simp[Ji]
 ·intro i hi ih;have e1:(i:Int)<d.length:=by omega
  rw[zi d i hi,Ji];rw[qZ d i hi] at ih;have step:Qj (d.map eI) d.length i nm (w.map eI)=if JE 256 false (jJ d i) d[i]=0 then Qj (d.map eI) d.length ((i+1:Nat):Int) nm (w.map eI) else some (.val (eI (JE 256 false (jJ d i) d[i]))):=by
   rw[zHU];simp only[zX,jE];cases i with
   | zero =>
    simp[e1,hi,zP _ d 0 hi,jJ,JE,wr 1 (by omega)]
    all_goals rfl
   | succ j =>
    have hj:j<d.length:=by omega
    have e2:(((j+1:Nat):Int) - 1)=(j:Int):=by omega
    have e3:(j:Int)<d.length:=by omega
    have e4:((j+1:Nat):Int)>0:=by omega
    have e5:((j+1:Nat):Int)<d.length:=by omega
    have e6:(0:Int)<=((j+1:Nat):Int):=by omega
    rw[e2,wr (j:Int) (by omega),ite_gt0]
    rw[wr (((j+1:Nat):Int)+1) (by omega)]
    simp only[e4,e5,e6,e3,Int.natCast_nonneg,and_self,if_true,Int.toNat_natCast,zP _ d (j+1) hi,zP _ d j hj];have e7:(j:Int)+1<d.length:=by omega
    by_cases hc:d[j+1]>d[j]
    ·simp[JE,jJ,hj,e7,hc]
     all_goals rfl
    ·simp[JE,jJ,hj,e7,hc]
     all_goals rfl
  rw[step];by_cases h:JE 256 false (jJ d i) d[i]=0
  ·rw[if_pos h,if_pos h,ih]
  ·rw[if_neg h,if_neg h,if_neg h]
def ruleF(r:ByteArray):FuncId:=if r=rG then 262 else if r=rS then 264 else 231
theorem findK_rule(r:ByteArray):ja (.str r) [.str rG,.str rS,.str rM] [.agg 12 [.fn 262 [] []],.agg 12 [.fn 264 [] []],.agg 12 [.fn 231 [] []]]=some (if jq r then some (.agg 12 [.fn (ruleF r) [] []]) else none):=by
 simp only[ja,jy,qB,zG,jq,qw,List.any_cons,List.any_nil,ruleF];by_cases h1:r=rG
 ·simp only[decide_eq_true h1,if_pos h1,Bool.true_or,if_true]
 ·by_cases h2:r=rS
  ·simp only[decide_eq_false h1,if_neg h1,decide_eq_true h2,if_pos h2,Bool.true_or,Bool.or_true,if_true,Bool.false_or]
  ·by_cases h3:r=rM
   ·simp only[decide_eq_false h1,if_neg h1,decide_eq_false h2,if_neg h2,decide_eq_true h3,Bool.true_or,Bool.or_true,if_true,Bool.false_or]
   ·simp only[decide_eq_false h1,decide_eq_false h2,decide_eq_false h3,Bool.or_false,Bool.false_eq_true,if_false]
theorem wakeH_facts{w:Wk}(h:wakeH w=0):jq w.rule=true/\w.d.length≠0/\w.d.length<=32/\w.w.length=w.d.length:=by
 unfold wakeH at h;obtain⟨h1,h⟩:=jH h;obtain⟨h2,h⟩:=jH h;obtain⟨h3,h⟩:=jH h;obtain⟨h4,h⟩:=jH h;refine⟨?_,?_,?_,?_⟩
 ·cases hn:jq w.rule
  ·simp[hn] at h1
  ·rfl
 ·intro e;rw[if_pos (List.eq_nil_of_length_eq_zero e)] at h2;cases h2
 ·split at h3 <;> omega
 ·split at h4 <;> omega
theorem c75(w:Wk):zB 75 [eWk w]=some (.val (eI (wakeE w))):=by
 have key:wakeH w=0->Qj (w.d.map eI) w.d.length 0 w.rule (w.w.map eI)=some (.val (eI (if Ji 256 false none w.d=0 then Ji 100 true none w.w else Ji 256 false none w.d))):=by
  intro h;obtain⟨_,_,h3,h4⟩:=wakeH_facts h;have a:=l75_0 w.d w.w w.rule (by omega) 0 (Nat.zero_le _)
  have b:=l75_1 w.d w.w w.rule (by omega) 0 (Nat.zero_le _)
  simp only[jJ,if_true,List.drop_zero,Int.natCast_zero] at a b;rw[a,b];split <;> rfl
 rw[C75,C198];simp only[zJ,jE];have fin:(if wakeH w=0 then Qj (w.d.map eI) w.d.length 0 w.rule (w.w.map eI) else some (.val (eI (wakeH w))))=some (.val (eI (wakeE w))):=by
  unfold wakeE;by_cases h:wakeH w=0
  ·rw[if_pos h,if_pos h,key h]
  ·rw[if_neg h,if_neg h]
 rw[<-fin];simp[findK_rule];cases hk:jq w.rule with
 | true =>
  simp[wakeH,hk];rfl
 | false =>
  simp[wakeH,hk];rfl
theorem l193(l:List ByteArray)(n:ByteArray)(hl:l.length<=1000):∀i,i<=l.length->zFQ (l.map .str) n i=some (.val (.bool (qw n (l.drop i)))):=by
 apply down
 ·rw[zFP];simp[qw]
 ·intro i hi ih;have e1:(i:Int)<l.length:=by omega
  rw[zFP,zi l i hi,zHC];simp only[qB,zX,wr ((i:Int)+1) (by omega)]
  by_cases h:l[i]=n
  ·simp[e1,zP _ l i hi,h]
  ·have h':¬n=l[i]:=λe=>h e.symm
   simp only[decide_eq_false h',Bool.false_or];simp[e1,zP _ l i hi,h]
   exact_mod_cast ih
theorem c193(l:List ByteArray)(n:ByteArray)(hl:l.length<=1000):zB 193 [.sl 1 (l.map .str),.str n]=some (.val (.bool (qw n l))):=by rw[C193];simpa using l193 l n hl 0 (Nat.zero_le _)
theorem l71_1(d w:List Int)(nm:ByteArray)(hl:w.length<=1000):∀i,i<=w.length->zBT i nm (d.map eI) (w.map eI)=some (.val (eI (Ji 100 true (jJ w i) (w.drop i)))):=by
 apply down
 ·rw[zHV];simp[Ji]
 ·intro i hi ih;have e1:(i:Int)<w.length:=by omega
  rw[zi w i hi,Ji];rw[qZ w i hi] at ih;have step:zBT i nm (d.map eI) (w.map eI)=if JE 100 true (jJ w i) w[i]=0 then zBT ((i+1:Nat):Int) nm (d.map eI) (w.map eI) else some (.val (eI (JE 100 true (jJ w i) w[i]))):=by
   rw[zHV];simp only[zX,jE];by_cases hr:zZ w[i] 0 100=0
   ·cases i with
    | zero =>
     simp[e1,hi,zP _ w 0 hi,jJ,JE,wr 1 (by omega),hr,zO]
    | succ j =>
     have hj:j<w.length:=by omega
     have e2:(((j+1:Nat):Int) - 1)=(j:Int):=by omega
     have e3:(j:Int)<w.length:=by omega
     have e4:((j+1:Nat):Int)>0:=by omega
     have e5:((j+1:Nat):Int)<w.length:=by omega
     have e6:(0:Int)<=((j+1:Nat):Int):=by omega
     rw[e2,wr (j:Int) (by omega)]
     rw[wr (((j+1:Nat):Int)+1) (by omega)]
     simp only[e4,e5,e6,e3,Int.natCast_nonneg,and_self,if_true,Int.toNat_natCast,zP _ w (j+1) hi,zP _ w j hj];have e7:(j:Int)+1<w.length:=by omega
     by_cases hc:w[j+1]<w[j]
     ·simp[JE,jJ,hj,e7,hc,hr,zO]
     ·simp[JE,jJ,hj,e7,hc,hr,zO]
   ·have hs:JE 100 true (jJ w i) w[i]=zZ w[i] 0 100:=by unfold JE;rw[zO,if_neg hr]
    simp[e1,hi,zP _ w i hi,hs,hr]
  rw[step,ih];split <;> rfl
theorem l71_0(d w:List Int)(nm:ByteArray)(hl:d.length<=1000):∀i,i<=d.length->zAT i nm (d.map eI) (w.map eI)=if Ji 256 false (jJ d i) (d.drop i)=0 then zBT (0:Nat) nm (d.map eI) (w.map eI) else some (.val (eI (Ji 256 false (jJ d i) (d.drop i)))):=by
 apply down
 ·rw[zHW];simp[Ji]
 ·intro i hi ih;have e1:(i:Int)<d.length:=by omega
  rw[zi d i hi,Ji];rw[qZ d i hi] at ih;have step:zAT i nm (d.map eI) (w.map eI)=if JE 256 false (jJ d i) d[i]=0 then zAT ((i+1:Nat):Int) nm (d.map eI) (w.map eI) else some (.val (eI (JE 256 false (jJ d i) d[i]))):=by
   rw[zHW];simp only[zX,jE];by_cases hr:zZ d[i] 0 256=0
   ·cases i with
    | zero =>
     simp[e1,hi,zP _ d 0 hi,jJ,JE,wr 1 (by omega),hr,zO]
    | succ j =>
     have hj:j<d.length:=by omega
     have e2:(((j+1:Nat):Int) - 1)=(j:Int):=by omega
     have e3:(j:Int)<d.length:=by omega
     have e4:((j+1:Nat):Int)>0:=by omega
     have e5:((j+1:Nat):Int)<d.length:=by omega
     have e6:(0:Int)<=((j+1:Nat):Int):=by omega
     rw[e2,wr (j:Int) (by omega)]
     rw[wr (((j+1:Nat):Int)+1) (by omega)]
     simp only[e4,e5,e6,e3,Int.natCast_nonneg,and_self,if_true,Int.toNat_natCast,zP _ d (j+1) hi,zP _ d j hj];have e7:(j:Int)+1<d.length:=by omega
     by_cases hc:d[j+1]>d[j]
     ·simp[JE,jJ,hj,e7,hc,hr,zO]
     ·simp[JE,jJ,hj,e7,hc,hr,zO]
   ·have hs:JE 256 false (jJ d i) d[i]=zZ d[i] 0 256:=by unfold JE;rw[zO,if_neg hr]
    simp[e1,hi,zP _ d i hi,hs,hr]
  rw[step];by_cases h:JE 256 false (jJ d i) d[i]=0
  ·rw[if_pos h,if_pos h,ih]
  ·rw[if_neg h,if_neg h,if_neg h]
theorem c71(w:Wk):zB 71 [eWk w]=some (.val (eI (wakeE w))):=by
 have key:wakeH w=0->zAT 0 w.rule (w.d.map eI) (w.w.map eI)=some (.val (eI (if Ji 256 false none w.d=0 then Ji 100 true none w.w else Ji 256 false none w.d))):=by
  intro h;obtain⟨_,_,h3,h4⟩:=wakeH_facts h;have a:=l71_0 w.d w.w w.rule (by omega) 0 (Nat.zero_le _)
  have b:=l71_1 w.d w.w w.rule (by omega) 0 (Nat.zero_le _)
  simp only[jJ,if_true,List.drop_zero,Int.natCast_zero] at a b;rw[a,b];split <;> rfl
 have h193:zB 193 [.sl 1 [.str rG,.str rS,.str rM],.str w.rule]=some (.val (.bool (jq w.rule))):=c193 [rG,rS,rM] w.rule (by simp)
 have fin:(if wakeH w=0 then zAT 0 w.rule (w.d.map eI) (w.w.map eI) else some (.val (eI (wakeH w))))=some (.val (eI (wakeE w))):=by
  unfold wakeE;by_cases h:wakeH w=0
  ·rw[if_pos h,if_pos h,key h]
  ·rw[if_neg h,if_neg h]
 rw[<-fin,C71,C92];simp only[jE,zX,zBH];simp[h193];cases hk:jq w.rule with
 | false=>simp[wakeH,hk,zO]
 | true =>
  by_cases h1:w.d=[]
  ·simp[wakeH,hk,zO,h1]
  ·by_cases h2:(32:Int)<w.d.length
   ·simp[wakeH,hk,zO,h1,h2]
   ·by_cases h3:(w.w.length:Int)=w.d.length
    ·simp[wakeH,hk,zO,h1,h2,h3]
    ·simp[wakeH,hk,zO,h1,h2,h3]
end Go.Am
namespace Go.Am
open Go.Proofs
open Go
variable[OO]
theorem sec_cases{n:Int}(h0:0<=n)(h7:n<=7):n=0\/n=1\/n=2\/n=3\/n=4\/n=5\/n=6\/n=7:=by omega
theorem zDU(n:Int):-1<=(zo n).x/\(zo n).x<=1/\-1<=(zo n).y/\(zo n).y<=1:=by
 unfold zo
 repeat' split
 all_goals simp
theorem c234(n:Int):zB 234 [eI n]=some (.val (.tup [if zZ n 0 7=0 then ePt (zo n) else ePt ⟨0,0⟩,eI (zZ n 0 7)])):=by
 by_cases h:zZ n 0 7=0
 ·have h0:0<=n/\n<=7:=by unfold zZ at h;split at h <;> omega
  rcases sec_cases h0.1 h0.2 with rfl | rfl | rfl | rfl | rfl | rfl | rfl | rfl <;> (rw[C234];simp[zo,nth,zZ])
 ·rw[C234];simp only[jE];simp[h]
abbrev eWd(sec:Int)(p:Pt):DV:=.agg 9 [eI sec,ePt p]
theorem c147(n:Int):zB 147 [eI n]=some (.val (.tup [if zZ n 0 7=0 then eWd n (zo n) else eWd 0 ⟨0,0⟩,eI (zZ n 0 7)])):=by
 by_cases h:zZ n 0 7=0
 ·rw[C147];simp only[jE];simp[h,c234]
 ·rw[C147];simp only[jE];simp[h]
theorem zAz(a b k:Int)(h:-k<=a)(h':a<=k)(hb:-1<=b)(hb':b<=1):-k<=a * b/\a * b<=k:=by
 have:b=-1\/b=0\/b=1:=by omega
 rcases this with rfl | rfl | rfl
 ·rw[Int.mul_neg,Int.mul_one];omega
 ·rw[Int.mul_zero];omega
 ·rw[Int.mul_one];omega
def zA8(p:Pt):Prop:=-1<=p.x/\p.x<=1/\-1<=p.y/\p.y<=1
theorem c187(sec:Int)(st p:Pt)(hs:zA8 st)(k:Int)(hk:k<=1000000)(hx:-k<=p.x)(hx':p.x<=k)(hy:-k<=p.y)(hy':p.y<=k):zB 187 [eWd sec st,ePt p]=some (.val (eI (qr p st))):=by
 obtain⟨s1,s2,s3,s4⟩:=hs;have h1:=zAz p.x st.x k hx hx' s1 s2;have h2:=zAz p.y st.y k hy hy' s3 s4;rw[C187];simp only[zL,h251,h141,zN,Bool.and_self,zF,zV,zY,zb,zK];rw[wr (p.x * st.x) (by omega),wr (p.y * st.y) (by omega),wr _ (by omega)]
 rfl
theorem c185(sec:Int)(st a b:Pt)(hs:zA8 st)(ha:YG a)(hb:YG b):zB 185 [eWd sec st,ePt a,ePt b]=some (.val (.tup [eI (zB2 sec st a b).1,eI (zB2 sec st a b).2])):=by
 obtain⟨a1,a2,a3,a4⟩:=ha;obtain⟨b1,b2,b3,b4⟩:=hb;have hal:=c187 sec st ⟨b.x - a.x,b.y - a.y⟩ hs 2000 (by omega) (by simp;omega) (by simp;omega) (by simp;omega) (by simp;omega)
 obtain⟨s1,s2,s3,s4⟩:=hs;have h1:=zAz (b.x - a.x) st.y 2000 (by omega) (by omega) s3 s4
 have h2:=zAz (b.y - a.y) st.x 2000 (by omega) (by omega) s1 s2
 rw[C185];simp only[zL,h251,h141,zN,Bool.and_self,zF,zV,zY,zb,zK];simp only[wr (b.x - a.x) (by omega),wr (b.y - a.y) (by omega),wr ((b.x - a.x) * st.y) (by omega),wr ((b.y - a.y) * st.x) (by omega),wr ((b.x - a.x) * st.y - (b.y - a.y) * st.x) (by omega),wr (0 - ((b.x - a.x) * st.y - (b.y - a.y) * st.x)) (by omega)]
 simp only[hal,zJ,h3,zF,zK,zBH,zB2,relI,qr];by_cases h:Int.tmod sec 2=1
 ·simp only[h,if_true]
 ·simp only[h,if_false]
theorem c186(w:Wk)(s o:Int)(hl:w.w.length=w.d.length)(hd:w.d.length<=1000):zB 186 [eWk w,eI s,eI o]=some (.val (eI (zGa w.d w.w s o))):=by
 rw[C186];simp only[zX];by_cases h1:s<1
 ·simp[h1,zGa]
 ·by_cases h2:s>w.d.length
  ·simp[h1,h2,zGa]
  ·obtain⟨k,rfl⟩:∃k:Nat,s=(k:Int)+1:=⟨(s - 1).toNat,by omega⟩
   have hk:k<w.d.length:=by omega
   have hk':k<w.w.length:=by omega
   have e1:((k:Int)+1 - 1)=k:=by omega
   have e2:(k:Int)<w.d.length:=by omega
   have e3:(k:Int)<w.w.length:=by omega
   simp only[zGa,e1,Int.toNat_natCast];simp[h1,h2,e2,e3,wr (k:Int) (by omega),zP _ w.d k hk,zP _ w.w k hk',hk,hk']
   by_cases h4:o>w.w[k]
   ·simp[h4]
   ·simp[h4]
end Go.Am
namespace Go.Am
open Go.Proofs
open Go
variable[OO]
theorem l126(a b:List Int)(hl:a.length=b.length)(hb:a.length<=1000000):∀i,i<=a.length->zC0 (a.map eI) (b.map eI) i=some (.val (.bool (decide (a.drop i=b.drop i)))):=by
 apply down
 ·rw[zFv];simp[hl]
 ·intro i hi ih;have e1:(i:Int)<a.length:=by omega
  have hi':i<b.length:=by omega
  have e2:(i:Int)<b.length:=by omega
  rw[zi a i hi,zi b i hi'];rw[zFv];simp only[zX,jE,wr ((i:Int)+1) (by omega)]
  by_cases h:a[i]=b[i]
  ·have ih':zC0 (a.map eI) (b.map eI) ((i:Int)+1)=some (.val (.bool (decide (a.drop (i+1)=b.drop (i+1))))):=by exact_mod_cast ih
   have hd:decide (a[i] :: a.drop (i+1)=b[i] :: b.drop (i+1))=decide (a.drop (i+1)=b.drop (i+1)):=decide_eq_decide.2 (by simp only[List.cons.injEq,h,true_and])
   rw[hd,<-ih'];simp[e1,e2,zP _ a i hi,zP _ b i hi',h]
  ·have hd:decide (a[i] :: a.drop (i+1)=b[i] :: b.drop (i+1))=false:=decide_eq_false (by simp only[List.cons.injEq,h,false_and,not_false_eq_true])
   rw[hd];simp[e1,e2,zP _ a i hi,zP _ b i hi',h]
theorem c126(a b:List Int)(hb:a.length<=1000000):zB 126 [.sl 1 (a.map eI),.sl 1 (b.map eI)]=some (.val (.bool (decide (a=b)))):=by
 rw[C126];simp only[jE];by_cases h:a.length=b.length
 ·have:=l126 a b h hb 0 (Nat.zero_le _);simpa[h] using this
 ·have h':¬(a.length:Int)=b.length:=by omega
  have hd:decide (a=b)=false:=decide_eq_false (by rintro rfl;exact h rfl)
  simp[h',hd]
def listB(l:List Int)(e bad:Int)(want:List Int):Bool:=if e=bad then (if bad=0 then decide (l=want) else decide (l=[])) else false
theorem c56(l:List Int)(hb:l.length<=1000000):zB 56 [.sl 1 (l.map eI)]=some (.val (.sl 1 (l.map eI))):=by
 rw[C56];simp only[zX];have h1:(2 * l.length+200) * 8<=281474976710656:=by omega
 cases l with
 | nil=>simp
 | cons a l =>
  simp only[List.length_cons] at h1;simp[h1];exact List.take_of_length_le (by simp)
theorem c67(w:Wk)(h1:w.d.length<=1000000)(h2:w.w.length<=1000000):zB 67 [eWk w]=some (.val (eWk w)):=by rw[C67];simp[c56 w.d h1,c56 w.w h2]
theorem c107(c:Cu)(h1:c.p.length<=1000000):zB 107 [eCu c]=some (.val (eCu c)):=by rw[C107];simp[c56 c.p h1]
def zD4(s:Si)(n:Int):Bool :=
 if (s.name.size:Int)>60 then false else if (s.tb.length:Int)>n/\s.tb.length≠65 then false else s.tb.all λt=>decide ((t.name.size:Int)<=60)
theorem l62(s:Si)(hl:s.tb.length<=1000):∀i,i<=s.tb.length->zGg i s.name s.least (s.tb.map eTb)=some (.val (.bool ((s.tb.drop i).all λt=>decide ((t.name.size:Int)<=60)))):=by
 apply down
 ·rw[zHb];simp
 ·intro i hi ih;have e1:(i:Int)<s.tb.length:=by omega
  rw[zi s.tb i hi,List.all_cons];rw[zHb];simp only[zX];by_cases h:(s.tb[i].name.size:Int)>60
  ·have hd:decide ((s.tb[i].name.size:Int)<=60)=false:=decide_eq_false (by omega)
   rw[hd,Bool.false_and];simp[e1,zP _ s.tb i hi,h]
  ·have hd:decide ((s.tb[i].name.size:Int)<=60)=true:=decide_eq_true (by omega)
   rw[hd,Bool.true_and,<-ih];simp[e1,zP _ s.tb i hi,h,wr ((i:Int)+1) (by omega)]
theorem c62(s:Si)(n:Int)(hn:n<=100):zB 62 [eSi s,eI n]=some (.val (.bool (zD4 s n))):=by
 rw[C62];simp only[zX,jE];unfold zD4;by_cases h1:(s.name.size:Int)>60
 ·simp[h1]
 ·by_cases h2:(s.tb.length:Int)>n
  ·by_cases h3:s.tb.length=65
   ·have:=l62 s (by omega) 0 (Nat.zero_le _)
    have h3':(s.tb.length:Int)=65:=by omega
    simp only[Int.natCast_zero,List.drop_zero] at this;simp[h1,h2,h3,h3'];rw[this]
   ·have h3':¬(s.tb.length:Int)=65:=by omega
    simp[h1,h2,h3,h3']
  ·have:=l62 s (by omega) 0 (Nat.zero_le _)
   simp only[Int.natCast_zero,List.drop_zero] at this;simp[h1,h2];rw[this]
def short33(n:Nat):Bool:=decide ((n:Int)<=6) || ((n:Int) == 33)
def zGH(w:Wk):Bool:=decide ((w.rule.size:Int)<=40) && short33 w.d.length && short33 w.w.length
theorem c63(w:Wk):zB 63 [eWk w]=some (.val (.bool (zGH w))):=by
 rw[C63];simp only[zX,zBH];unfold zGH short33;by_cases h1:(w.rule.size:Int)<=40
 ·by_cases h2:(w.d.length:Int)<=6
  ·by_cases h3:(w.w.length:Int)<=6
   ·simp[h1,h2,h3]
   ·simp[h1,h2,h3]
  ·by_cases h4:(w.d.length:Int)=33
   ·by_cases h3:(w.w.length:Int)<=6
    ·simp[h1,h2,h3,h4]
    ·simp[h1,h2,h3,h4]
   ·simp[h1,h2,h4]
 ·simp[h1]
end Go.Am
namespace Go.Am
open Go.Proofs
open Go
variable[OO]
theorem Yp(a:Int)(l:List Int):zO (a :: l)=0 ↔ a=0/\zO l=0:=by
 constructor
 ·exact jH
 ·rintro⟨rfl,h⟩;simp[zO,h]
theorem Q5:zO []=0:=rfl
theorem zG1(least:Int):∀(l prev:List Tb),JW least prev l=0->∀t∈l,YG t.at'/\jO t.name=true
 | [],_,_,t,ht=>by simp at ht
 | u :: l,prev,h,t,ht=>by
  rw[JW] at h;by_cases hz:zO [if jO u.name then 0 else 8,ptE u.at',if qw u.name (prev.map (·.name)) then 9 else 0]=0
  ·rw[if_neg (by rw[hz];simp)] at h
   by_cases ha:(prev.any λo=>decide (js u.at' o.at'<least * least))=true
   ·rw[if_pos ha] at h;cases h
   ·rw[if_neg ha] at h;rcases List.mem_cons.1 ht with rfl | ht
    ·refine⟨(zIR _).1 (zEw hz),?_⟩;have:=(jH hz).1;cases hn:jO t.name
     ·simp[hn] at this
     ·rfl
    ·exact zG1 least l _ h t ht
  ·rw[if_pos hz] at h;exact absurd h hz
theorem qP{s:Si}(h:jb s=0):(∀t∈s.tb,YG t.at'/\jO t.name=true)/\jO s.name=true/\1<=s.least/\s.least<=1000/\s.tb.length<=64:=by
 unfold jb at h;by_cases hz:zO [if jO s.name then 0 else 8,zZ s.least 1 1000,if (64:Int)<s.tb.length then 5 else 0]=0
 ·rw[if_neg (by rw[hz];simp)] at h
  exact⟨zG1 _ _ _ h,zAg hz⟩
 ·rw[if_pos hz] at h;exact absurd h hz
def idxE(n i:Int):Int:=if i<0\/i>=n then 10 else 0
def relH(s:Si)(sec i j:Int):Int:=zO [zZ sec 0 7,idxE s.tb.length i,idxE s.tb.length j,if i=j then 9 else 0]
def ptAt(s:Si)(i:Int):Pt:=((s.tb[i.toNat]?).map (·.at')).getD ⟨0,0⟩
def relA(s:Si)(sec i j:Int):Int×Int×Int :=
 if jb s=0 then (if relH s sec i j=0 then ((zB2 sec (zo sec) (ptAt s i) (ptAt s j)).1,(zB2 sec (zo sec) (ptAt s i) (ptAt s j)).2,0) else (0,0,relH s sec i j)) else (0,0,jb s)
theorem zJS{n a b:Int}(h:zZ n a b=0):a<=n/\n<=b:=by unfold zZ at h;split at h <;> omega
theorem idx_ok{n i:Int}(h:idxE n i=0):0<=i/\i<n:=by unfold idxE at h;split at h <;> omega
theorem ptAt_of(s:Si)(k:Nat)(h:k<s.tb.length):ptAt s (k:Int)=s.tb[k].at':=by simp[ptAt,h]
theorem c64(s:Si)(sec i j:Int):zB 64 [eSi s,eI sec,eI i,eI j]=some (.val (.tup [eI (relA s sec i j).1,eI (relA s sec i j).2.1,eI (relA s sec i j).2.2])):=by
 rw[C64];simp only[zX,jE];unfold relA;by_cases he:jb s=0
 ·obtain⟨hok,_,_,_,hl⟩:=qP he;by_cases hh:relH s sec i j=0
  ·have hh':=hh;unfold relH at hh';simp only[Yp] at hh';obtain⟨h1,h2,h3',h4,_⟩:=hh';have r1:=zJS h1;obtain⟨i0,i1⟩:=idx_ok h2;obtain⟨j0,j1⟩:=idx_ok h3';obtain⟨a,rfl⟩:∃a:Nat,i=a:=⟨i.toNat,by omega⟩
   obtain⟨b,rfl⟩:∃b:Nat,j=b:=⟨j.toNat,by omega⟩
   have ha:a<s.tb.length:=by omega
   have hb:b<s.tb.length:=by omega
   have hij:¬(a:Int)=b:=by intro e;rw[if_pos e] at h4;cases h4
   have hij':¬a=b:=by omega
   have ea:=(hok s.tb[a] (List.getElem_mem ha)).1;have eb:=(hok s.tb[b] (List.getElem_mem hb)).1;have hc:=c185 sec (zo sec) s.tb[a].at' s.tb[b].at' (zDU sec) ea eb;have na:¬(a:Int)<0:=by omega
   have nb:¬(b:Int)<0:=by omega
   have na':¬(s.tb.length:Int)<=a:=by omega
   have nb':¬(s.tb.length:Int)<=b:=by omega
   have na2:¬s.tb.length<=a:=by omega
   have nb2:¬s.tb.length<=b:=by omega
   rw[ptAt_of s a ha,ptAt_of s b hb];simp[c158,he,c147,h1,hh,na,nb,na',nb',na2,nb2,hij,hij',Yp,Q5,zP _ s.tb a ha,zP _ s.tb b hb,ha,hb,hc]
  ·have hw:zH EE 6 251 (if zZ sec 0 7=0 then eWd sec (zo sec) else eWd 0 ⟨0,0⟩)=true:=by split <;> simp
   simp only[he,hh,if_true,if_false];by_cases hi:i<0
   ·by_cases hj:j<0
    ·simp[c158,he,c147,hi,hj,Yp,Q5,relH,idxE,hw]
    ·simp[c158,he,c147,hi,hj,Yp,Q5,relH,idxE,hw]
   ·by_cases hj:j<0
    ·simp[c158,he,c147,hi,hj,Yp,Q5,relH,idxE,hw]
    ·have hh2:=hh;simp[relH,idxE,hi,hj] at hh2;simp[c158,he,c147,hi,hj,relH,idxE,hh2,hw]
 ·simp[c158,he]
end Go.Am
namespace Go.Am
open Go.Proofs
open Go
variable[OO]
theorem l65_b(tbs:List Tb)(nm:ByteArray)(least:Int)(hl:tbs.length<=100000):∀i,i<=tbs.length->zIh (tbs.map eTb) tbs.length i nm least ((tbs.take i).map eTb)=some (.val (.agg 0 [.str nm,eI least,.sl 3 (tbs.map eTb)])):=by
 apply down
 ·rw[zHa];simp;exact List.take_of_length_le (by simp)
 ·intro i hi ih;have e1:(i:Int)<tbs.length:=by omega
  have htk:tbs.take (i+1)=tbs.take i++[tbs[i]]:=by rw[List.take_succ_eq_append_getElem hi]
  rw[<-ih];rw[zHa];simp only[zX];have hm:min i tbs.length=i:=by omega
  have e2:(2 * (i+1)+200) * 32<=281474976710656:=by omega
  simp[e1,zP _ tbs i hi,hm,e2,wr ((i:Int)+1) (by omega)]
  congr 1;rw[List.take_succ_eq_append_getElem (by simpa using hi)]
  simp
theorem c65(s:Si)(hl:s.tb.length<=100000):zB 65 [eSi s]=some (.val (eSi s)):=by
 rw[C65];simp;rw[L65_0a_eq];simp only[zX];by_cases h:s.tb=[]
 ·simp[h]
 ·have h0:0<s.tb.length:=List.length_pos_iff.2 h;have h1:=l65_b s.tb s.name s.least hl 1 (by omega)
  have e:s.tb.take 1=[s.tb[0]]:=by rw[List.take_succ_eq_append_getElem h0];simp
  rw[e] at h1;simp[h0,zP _ s.tb 0 h0];simpa using h1
end Go.Am
namespace Go.Am
open Go.Proofs
open Go
variable[OO]
theorem shortS_len{s:Si}{n:Int}(h:zD4 s n=true):(s.tb.length:Int)<=n\/s.tb.length=65:=by
 unfold zD4 at h;split at h
 ·cases h
 ·split at h
  ·cases h
  ·omega
theorem zEb{n:Nat}(h:short33 n=true):n<=33:=by simp[short33] at h;omega
end Go.Am
namespace Go.Am
open Go.Proofs
open Go
variable[OO]
theorem tk1{α:Type}(l:List α)(h:0<l.length):l.take 1=[l[0]]:=by rw[List.take_succ_eq_append_getElem h];simp
theorem l151b(f:FuncId)(a c:List DV)(g:Int->Int)(l:List Int)(hl:l.length<=100000)(hg:∀x∈l,zB f (zu EE f ((a++[eI x])++c))=some (.val (eI (g x)))) :
  ∀i,i<=l.length->zFi f a c ((l.take i).map λx=>eI (g x)) (l.map eI) l.length i=some (.val (.sl 1 ((l.map g).map eI))):=by
 apply down
 ·rw[zFh];simp;exact(List.take_of_length_le (by simp)).trans (by simp)
 ·intro i hi ih;have e1:(i:Int)<l.length:=by omega
  have hx:=hg l[i] (List.getElem_mem hi);have hm:min i l.length=i:=by omega
  have e2:(2 * (i+1)+200) * 8<=281474976710656:=by omega
  rw[<-ih,zFh];simp only[zX];simp only[List.append_assoc,List.cons_append,List.nil_append,eI,eTb,ePt] at hx;simp[e1,zP _ l i hi,hm,e2,wr ((i:Int)+1) (by omega),hx]
  congr 1;rw[List.take_succ_eq_append_getElem (by simpa using hi)]
  simp
theorem c151(f:FuncId)(a c:List DV)(g:Int->Int)(l:List Int)(hl:l.length<=100000)(hg:∀x∈l,zB f (zu EE f ((a++[eI x])++c))=some (.val (eI (g x)))) :
  zB 151 [.sl 1 (l.map eI),.fn f a c]=some (.val (.sl 1 ((l.map g).map eI))):=by
 rw[C151];simp only[zL,zN,h25,h74,Bool.and_self,zF,zQ,Yx,Qb,Qa,List.length_map];rw[L151_0a_eq];simp only[zX];by_cases h:l=[]
 ·simp[h]
 ·have h0:0<l.length:=List.length_pos_iff.2 h;have h1:=l151b f a c g l hl hg 1 (by omega)
  have hx:=hg l[0] (List.getElem_mem h0);rw[tk1 l h0] at h1;simp only[List.append_assoc,List.cons_append,List.nil_append,eI,eTb,ePt] at hx;simp[h0,zP _ l 0 h0,hx];simpa using h1
theorem l236b(f:FuncId)(a c:List DV)(g:List Int->Int)(l:List (List Int))(hl:l.length<=100000)(hg:∀x∈l,zB f (zu EE f ((a++[.sl 1 (x.map eI)])++c))=some (.val (eI (g x)))) :
  ∀i,i<=l.length->zFJ f a c ((l.take i).map λx=>eI (g x)) (l.map λr=>.sl 1 (r.map eI)) l.length i=some (.val (.sl 1 ((l.map g).map eI))):=by
 apply down
 ·rw[zFI];simp;exact(List.take_of_length_le (by simp)).trans (by simp)
 ·intro i hi ih;have e1:(i:Int)<l.length:=by omega
  have hx:=hg l[i] (List.getElem_mem hi);have hm:min i l.length=i:=by omega
  have e2:(2 * (i+1)+200) * 8<=281474976710656:=by omega
  rw[<-ih,zFI];simp only[zX];simp only[List.append_assoc,List.cons_append,List.nil_append,eI,eTb,ePt] at hx;simp[e1,zP _ l i hi,hm,e2,wr ((i:Int)+1) (by omega),hx]
  congr 1;rw[List.take_succ_eq_append_getElem (by simpa using hi)]
  simp
theorem c236(f:FuncId)(a c:List DV)(g:List Int->Int)(l:List (List Int))(hl:l.length<=100000)(hg:∀x∈l,zB f (zu EE f ((a++[.sl 1 (x.map eI)])++c))=some (.val (eI (g x)))) :
  zB 236 [.sl 1 (l.map λr=>.sl 1 (r.map eI)),.fn f a c]=some (.val (.sl 1 ((l.map g).map eI))):=by
 rw[C236];simp only[zL,zN,h95,h73,Bool.and_self,zF,zQ,Yx,Qb,Qa,List.length_map];rw[L236_0a_eq];simp only[zX];by_cases h:l=[]
 ·simp[h]
 ·have h0:0<l.length:=List.length_pos_iff.2 h;have h1:=l236b f a c g l hl hg 1 (by omega)
  have hx:=hg l[0] (List.getElem_mem h0);rw[tk1 l h0] at h1;simp only[List.append_assoc,List.cons_append,List.nil_append,eI,eTb,ePt] at hx;simp[h0,zP _ l 0 h0,hx];simpa using h1
theorem l232b(f:FuncId)(a c:List DV)(g:Tb->Pt)(l:List Tb)(hl:l.length<=100000)(hg:∀x∈l,zB f (zu EE f ((a++[eTb x])++c))=some (.val (ePt (g x)))) :
  ∀i,i<=l.length->zFL f a c ((l.take i).map λx=>ePt (g x)) (l.map eTb) l.length i=some (.val (.sl 2 ((l.map g).map ePt))):=by
 apply down
 ·rw[zFK];simp;exact(List.take_of_length_le (by simp)).trans (by simp)
 ·intro i hi ih;have e1:(i:Int)<l.length:=by omega
  have hx:=hg l[i] (List.getElem_mem hi);have hm:min i l.length=i:=by omega
  have e2:(2 * (i+1)+200) * 16<=281474976710656:=by omega
  rw[<-ih,zFK];simp only[zX];simp only[List.append_assoc,List.cons_append,List.nil_append,eI,eTb,ePt] at hx;simp[e1,zP _ l i hi,hm,e2,wr ((i:Int)+1) (by omega),hx]
  congr 1;rw[List.take_succ_eq_append_getElem (by simpa using hi)]
  simp
theorem c232(f:FuncId)(a c:List DV)(g:Tb->Pt)(l:List Tb)(hl:l.length<=100000)(hg:∀x∈l,zB f (zu EE f ((a++[eTb x])++c))=some (.val (ePt (g x)))) :
  zB 232 [.sl 3 (l.map eTb),.fn f a c]=some (.val (.sl 2 ((l.map g).map ePt))):=by
 rw[C232];simp only[zL,zN,h56,h349,Bool.and_self,zF,zQ,Yx,Qb,Qa,List.length_map];rw[L232_0a_eq];simp only[zX];by_cases h:l=[]
 ·simp[h]
 ·have h0:0<l.length:=List.length_pos_iff.2 h;have h1:=l232b f a c g l hl hg 1 (by omega)
  have hx:=hg l[0] (List.getElem_mem h0);rw[tk1 l h0] at h1;simp only[List.append_assoc,List.cons_append,List.nil_append,eI,eTb,ePt] at hx;simp[h0,zP _ l 0 h0,hx];simpa using h1
theorem c233(t:Tb):zB 233 [eTb t]=some (.val (ePt t.at')):=by rw[C233];simp
theorem c146(s:Si)(hl:s.tb.length<=100000):zB 146 [eSi s]=some (.val (.sl 2 ((JA s).map ePt))):=by
 have h:=c232 233 [] [] (·.at') s.tb hl λx _=>(show zB 233 (zu EE 233 [eTb x])=zB 233 [eTb x] from congrArg (zB 233) (by kernel_rfl)).trans (c233 x)
 rw[C146];simp only[zL,zN,h58,Bool.and_self,zF,zV,zY,zb,zq,zQ,h,zJ,h81];rfl
theorem l231(l:List Int)(hl:l.length<=100000)(hb:∀x∈l,0<=x/\x<=100000000):∀i,i<=l.length->∀n:Int,0<=n->n<=i * 100000000->zCx n (l.map eI) l.length i=some (.val (eI (n+z1 (l.drop i)))):=by
 apply down (P:=λi=>∀n:Int,0<=n->n<=i * 100000000->zCx n (l.map eI) l.length i=some (.val (eI (n+z1 (l.drop i)))))
 ·intro n _ _;rw[zFM];simp[z1]
 ·intro i hi ih n h0 h1;have e1:(i:Int)<l.length:=by omega
  have hx:=hb l[i] (List.getElem_mem hi);have ih':=ih (n+l[i]) (by omega) (by omega)
  rw[zFM,zi l i hi];simp only[zX];simp[e1,zP _ l i hi,wr ((i:Int)+1) (by omega),wr (n+l[i]) (by omega),z1]
  rw[show((i:Int)+1)=((i+1:Nat):Int) by omega,ih']
  simp;omega
theorem c231(l:List Int)(hl:l.length<=100000)(hb:∀x∈l,0<=x/\x<=100000000):zB 231 [.sl 1 (l.map eI)]=some (.val (eI (z1 l))):=by rw[C231];simpa using l231 l hl hb 0 (Nat.zero_le _) 0 (by omega) (by omega)
theorem l263(l:List Int)(hl:l.length<=100000):∀i,i<=l.length->∀n:Int,zCv (l.map eI) n i=some (.val (eI (Y3 n (l.drop i)))):=by
 apply down (P:=λi=>∀n:Int,zCv (l.map eI) n i=some (.val (eI (Y3 n (l.drop i)))))
 ·intro n;rw[zFG];simp[Y3]
 ·intro i hi ih n;have e1:(i:Int)<l.length:=by omega
  have ih':=ih (if l[i]>n then l[i] else n)
  rw[zFG,zi l i hi];simp only[zX];simp[e1,zP _ l i hi,wr ((i:Int)+1) (by omega),Y3]
  rw[show((i:Int)+1)=((i+1:Nat):Int) by omega]
  exact ih'
theorem c262(l:List Int)(hl:l.length<=10000):zB 262 [.sl 1 (l.map eI)]=some (.val (eI (Y3 0 l))):=by
 have h1:=l263 (0 :: l) (by simp;omega) 1 (by simp) 0
 have e2:(2 * (1+l.length)+200) * 8<=281474976710656:=by omega
 have h2:zB 263 [.sl 1 ((0 :: l).map eI)]=some (.val (eI (Y3 0 l))):=by rw[C263];simp only[zX];simp;exact⟨by omega,by simpa using h1⟩
 have tkm:List.take l.length (List.map eI l)=List.map eI l:=List.take_of_length_le (by simp)
 rw[C262];simp only[zX];simp[e2,tkm];simpa using congrArg (λo=>zI o (λr0=>ifO (zH EE 6 3 r0) (some (.val (.int .i64 (zC r0)))) none) λ_ _=>none) h2
theorem l265(n:Int)(h0:0<=n)(hn:n<4294967296):∀(k:Nat) (lo hi:Int),0<=lo->lo<hi->hi<=65536->(hi - lo).toNat<=k->lo * lo<=n->n<hi * hi->zCu n lo hi=some (.val (eI (J1 n)))
 | 0,lo,hi,_,h2,_,h4,_,_=>by omega
 | k+1,lo,hi,h1,h2,h3,h4,h5,h6=>by
  rw[L265_0a_eq];have e1:IntKind.i64.wrap (hi - lo)=hi - lo:=wr _ (by omega)
  have e2:IntKind.i64.wrap (lo+hi)=lo+hi:=wr _ (by omega)
  have e3:Int.tdiv (lo+hi) 2=(lo+hi) / 2:=Int.tdiv_eq_ediv_of_nonneg (by omega)
  have e4:IntKind.i64.wrap ((lo+hi) / 2)=(lo+hi) / 2:=wr _ (by omega)
  simp only[zX,e1,e2,e3,e4];by_cases hd:hi - lo>1
  ·rw[if_pos hd];have hm0:lo<(lo+hi) / 2:=by omega
   have hm1:(lo+hi) / 2<hi:=by omega
   generalize (lo+hi) / 2=m at hm0 hm1;have hsq:=qu (a:=m) (b:=65536) (by omega) (by omega)
   have hnn:=Int.mul_nonneg (a:=m) (b:=m) (by omega) (by omega)
   rw[wr (m * m) (by omega)]
   by_cases hc:m * m<=n
   ·rw[if_pos hc];exact l265 n h0 hn k m hi (by omega) hm1 h3 (by omega) hc h6
   ·rw[if_neg hc];exact l265 n h0 hn k lo m h1 (by omega) (by omega) (by omega) h5 (by omega)
  ·rw[if_neg hd];have:hi=lo+1:=by omega
   subst this;rw[IsRoot.unique ⟨h1,h5,h6⟩ (YY h0)]
theorem c265(n:Int)(h0:0<=n)(hn:n<4294967296):zB 265 [eI n]=some (.val (eI (J1 n))):=by rw[C265];simp only[zL,zN,h3,Bool.and_self,zF,zK];exact l265 n h0 hn 65536 0 65536 (by omega) (by omega) (by omega) (by omega) (by simpa using h0) (by simpa using hn)
theorem c266(n:Int)(h0:0<=n)(hn:n<=256):zB 266 [eI n]=some (.val (eI (n * n))):=by have:=qu (a:=n) (b:=256) h0 hn;have:=Int.mul_nonneg h0 h0;rw[C266];simp only[zL,zN,h3,Bool.and_self,zF,zK,wr (n * n) (by omega)]
theorem c264(l:List Int)(hl:l.length<=64)(hb:∀x∈l,0<=x/\x<=256):zB 264 [.sl 1 (l.map eI)]=some (.val (eI (J1 (z1 (sqI l))))):=by
 have h1:=c151 266 [] [] (λn=>n * n) l (by omega) λx hx=>(show zB 266 (zu EE 266 [eI x])=zB 266 [eI x] from congrArg (zB 266) (by kernel_rfl)).trans (c266 x (hb x hx).1 (hb x hx).2)
 have hs:=zGt hb;have hsum:=qC _ hs;have hlen:(sqI l).length=l.length:=by simp[sqI]
 have h2:=c231 (sqI l) (by omega) λx hx=>by have:=hs x hx;omega
 have h3':=c265 (z1 (sqI l)) hsum.1 (by rw[hlen] at hsum;have:(l.length:Int) * (256 * 256)<=64 * 65536:=Int.mul_le_mul (by omega) (by omega) (by omega) (by omega);omega)
 have e:(l.map λn=>n * n)=sqI l:=rfl
 rw[e] at h1;rw[C264];simp only[zL,zN,h25,Bool.and_self,zF,zQ,h1,zJ,h2,h3,zK,h3']
theorem rS_ne_rG:¬rS=rG:=by decide
theorem rM_ne_rS:¬rM=rS:=by decide
theorem rM_ne_rG:¬rM=rG:=by decide
theorem getE_congr{α:Type}{l:List α}{i j:Nat}(h:i=j)(hi:i<l.length)(hj:j<l.length):l[i]=l[j]:=by subst h;rfl
theorem c237(rule:ByteArray)(hk:jq rule=true)(f:FuncId)(hf:f=if rule=rG then 262 else if rule=rS then 264 else 231)(l:List Int)(hl:l.length<=64)(hb:∀x∈l,0<=x/\x<=256) :
  zB 237 [.sl 1 (l.map eI),.dp (.fn f [] [])]=some (.val (eI (YM (YR rule l)))):=by
 have key:zB f (zu EE f [.sl 1 (l.map eI)])=some (.val (eI (YR rule l))):=by
  unfold YR;by_cases h1:rule=rG
  ·rw[if_pos h1] at hf;subst hf;rw[if_pos h1];exact(show zB 262 (zu EE 262 [.sl 1 (l.map eI)])=zB 262 [.sl 1 (l.map eI)] from congrArg (zB 262) (by kernel_rfl)).trans (c262 l (by omega))
  ·rw[if_neg h1] at hf;by_cases h2:rule=rS
   ·rw[if_pos h2] at hf;subst hf;rw[if_neg h1,if_pos h2];exact(show zB 264 (zu EE 264 [.sl 1 (l.map eI)])=zB 264 [.sl 1 (l.map eI)] from congrArg (zB 264) (by kernel_rfl)).trans (c264 l hl hb)
   ·rw[if_neg h2] at hf;subst hf;rw[if_neg h1,if_neg h2];exact(show zB 231 (zu EE 231 [.sl 1 (l.map eI)])=zB 231 [.sl 1 (l.map eI)] from congrArg (zB 231) (by kernel_rfl)).trans (c231 l (by omega) λx hx=>by have:=hb x hx;omega)
 rw[C237];simp only[zL,zN,h25,Bool.and_self,zF,zQ,qt,Yx,Qb,Qa,List.nil_append,List.append_nil,h73,key,zJ,h3,zK];simp only[zIC,List.all_cons,List.all_nil,Bool.and_self,zF];rfl
theorem find_rule(rule:ByteArray)(hk:jq rule=true) :
  ja (.str rule) [.str rG,.str rS,.str rM] [.agg 12 [.fn 262 [] []],.agg 12 [.fn 264 [] []],.agg 12 [.fn 231 [] []]]=some (some (.agg 12 [.fn (if rule=rG then 262 else if rule=rS then 264 else 231) [] []])):=by
 simp only[ja,jy,qB,zG];by_cases h1:rule=rG
 ·simp[h1]
 ·by_cases h2:rule=rS
  ·simp[h2,rS_ne_rG]
  ·have h3:rule=rM:=by simpa[jq,qw,h1,h2] using hk
   simp[h3,rM_ne_rG,rM_ne_rS]
theorem c235(v d:Int)(hv:0<=v/\v<=51)(hd:0<=d/\d<=256):zB 235 [eI d,.dp (eI v)]=some (.val (eI (v * (256 - d)))):=by
 have h1:=Int.mul_nonneg hv.1 (show 0<=256 - d by omega)
 have h2:v * (256 - d)<=51 * 256:=Int.mul_le_mul hv.2 (by omega) (by omega) (by omega)
 rw[C235];simp only[zL,zN,h3,Bool.and_self,zF,qt,zK,wr (256 - d) (by omega),wr (v * (256 - d)) (by omega)]
 simp[zIC]
theorem c152(l:List Int)(v:Int)(hl:l.length<=100000)(hv:0<=v/\v<=51)(hd:∀d∈l,0<=d/\d<=256):zB 152 [.sl 1 (l.map eI),eI v]=some (.val (.sl 1 ((QH l v).map eI))):=by
 have h:=c151 235 [] [.dp (eI v)] (λd=>v * (256 - d)) l hl λx hx=>(show zB 235 (zu EE 235 [eI x,.dp (eI v)])=zB 235 [eI x,.dp (eI v)] from congrArg (zB 235) (by kernel_rfl)).trans (c235 v x hv (hd x hx))
 rw[C152];simp only[zL,zN,h25,h3,Bool.and_self,zF,zQ,zK,h,zJ];rfl
theorem zGo(c:Cu)(hc:okCu c)(v:Int)(h0:0<=v)(h1:v<=13056):zB 150 [eCu c,eI v]=some (.val (eI (zAV c v))):=by
 obtain⟨hl,hl',hp,_,_⟩:=hc;have e3:Int.tdiv v 256=v / 256:=Int.tdiv_eq_ediv_of_nonneg h0;have e4:Int.tmod v 256=v % 256:=Int.tmod_eq_emod_of_nonneg h0;have g:=λi=>zBn (b:=100000) (by decide) hp i
 rw[C150];simp only[zL,zN,h60,h3,Bool.and_self,zF,zV,zY,zb,zQ,zK,List.length_map,e3,e4,zX];rw[wr (v / 256) (by omega),wr ((c.p.length:Int) - 1) (by omega),wr (v / 256+1) (by omega)]
 unfold zAV lastP;by_cases hk:v / 256>=(c.p.length:Int) - 1
 ·have hi:((c.p.length:Int) - 1).toNat<c.p.length:=by omega
  have hn:=zP eI c.p ((c.p.length:Int) - 1).toNat hi;have hg:=g (c.p.length - 1);have hgd:c.p.getD (c.p.length - 1) 0=c.p[((c.p.length:Int) - 1).toNat]:=by
   rw[List.getD_eq_getElem?_getD,List.getElem?_eq_getElem (by omega)]
   exact getE_congr (by omega) _ _
  rw[hgd] at hg ⊢;rw[if_pos hk,if_pos hk,if_pos (by omega),hn]
  simp only[h3,zF,zK];rw[wr _ (by omega)]
 ·obtain⟨k,hk'⟩:∃k:Nat,v / 256=k:=⟨(v / 256).toNat,by omega⟩
  have hf0:=Int.emod_nonneg v (show(256:Int)≠0 by decide)
  have hf1:=Int.emod_lt_of_pos v (show(0:Int)<256 by decide)
  rw[hk'] at hk ⊢;have hi:k<c.p.length:=by omega
  have hi1:k+1<c.p.length:=by omega
  have hn:=zP eI c.p k hi;have hn1:=zP eI c.p (k+1) hi1;have hg:=g k;have hg1:=g (k+1);have hgd:c.p.getD k 0=c.p[k]:=by rw[List.getD_eq_getElem?_getD,List.getElem?_eq_getElem hi];rfl
  have hgd1:c.p.getD (k+1) 0=c.p[k+1]:=by rw[List.getD_eq_getElem?_getD,List.getElem?_eq_getElem hi1];rfl
  rw[hgd] at hg;rw[hgd1] at hg1;have hb:=zHA (f:=v % 256) hg hg1 ⟨hf0,by omega⟩
  have hb1:-25600000<=(c.p[k+1] - c.p[k]) * (v % 256)/\(c.p[k+1] - c.p[k]) * (v % 256)<=25600000:=by omega
  have et:((k:Int)+1).toNat=k+1:=by omega
  rw[if_neg hk,if_neg hk];have c1:(0:Int)<=(k:Int)/\(k:Int)<(c.p.length:Int):=by omega
  have c2:(0:Int)<=(k:Int)+1/\(k:Int)+1<(c.p.length:Int):=by omega
  simp only[c1,c2,and_self,if_true,Int.toNat_natCast,et,hn,hn1,h3,zF,zK,hgd,hgd1];rw[wr (256 * c.p[k]) (by omega),wr (c.p[k+1] - c.p[k]) (by omega),wr ((c.p[k+1] - c.p[k]) * (v % 256)) (by omega),wr _ (by omega)]
theorem c151v(c:Cu)(hc:okCu c)(l:List Int)(hl:l.length<=100000)(hb:∀x∈l,0<=x/\x<=13056):zB 151 [.sl 1 (l.map eI),.fn 150 [eCu c] []]=some (.val (.sl 1 ((l.map (zAV c)).map eI))) :=
 c151 150 [eCu c] [] (zAV c) l hl λx hx=>(show zB 150 (zu EE 150 [eCu c,eI x])=zB 150 [eCu c,eI x] from congrArg (zB 150) (by kernel_rfl)).trans (zGo c hc x (hb x hx).1 (hb x hx).2)
end Go.Am
namespace Go.Am
open Go.Proofs
open Go
variable[OO]
def S190_0a(v0:Nat)(v1 v2 v3:List DV)(v4:Int):St :=
 zx 22 [(1,(.d (.fn v0 v1 v2))),(5,(.d .nl)),(8,(.d (.sl 2 v3))),(9,(.d (eI v4))),(10,(.d (eI 0)))] []
noncomputable def L190_0a(v0:Nat)(v1 v2 v3:List DV)(v4:Int):Option CR:=goQ 190 0 (S190_0a v0 v1 v2 v3 v4)
def S190_0b(v0:Nat)(v1 v2 v3 v4:List DV)(v5 v6:Int):St :=
 zx 22 [(1,(.d (.fn v0 v1 v2))),(5,(.own 19 0 (List.length v3) 1)),(8,(.d (.sl 2 v4))),(9,(.d (eI v5))),(10,(.d (eI v6)))] [(19,(.mk false (.dc 1 v3)))]
noncomputable def zFS(v0:Nat)(v1 v2 v3 v4:List DV)(v5 v6:Int):Option CR:=goQ 190 0 (S190_0b v0 v1 v2 v3 v4 v5 v6)
theorem L190_0a_eq(v0:Nat)(v1 v2 v3:List DV)(v4:Int):L190_0a v0 v1 v2 v3 v4 =
 ifO (decide ((0:Int)<v4))
 (ifO (decide (((0:Int)<=(0:Int))/\((0:Int)<(((List.length v3):Nat):Int))))
 (ifO (zH EE 6 302 (nth v3 0))
 (zI (zB v0 (zu EE v0 ((v1++[(.agg 1 [(eI (zC (nth (flds (nth v3 0)) 0))),(eI (zC (nth (flds (nth v3 0)) 1)))])])++v2)))
 (λr0=>ifO (zH EE 6 3 r0)
 ((zFS v0 v1 v2 [(eI (zC r0))] v3 v4 (1:Int)))
 (none))
 (λ_ _=>none))
 (none))
 (none))
 (some (.val (.sl 1 []))) :=
 (zk 190 0 _).trans (by kernel_rfl)
theorem zFR(v0:Nat)(v1 v2 v3 v4:List DV)(v5 v6:Int):zFS v0 v1 v2 v3 v4 v5 v6 =
 ifO (decide (v6<v5))
 (ifO (decide (((0:Int)<=v6)/\(v6<(((List.length v4):Nat):Int))))
 (ifO (zH EE 6 302 (nth v4 (Int.toNat v6)))
 (zI (zB v0 (zu EE v0 ((v1++[(.agg 1 [(eI (zC (nth (flds (nth v4 (Int.toNat v6))) 0))),(eI (zC (nth (flds (nth v4 (Int.toNat v6))) 1)))])])++v2)))
 (λr3=>ifO (zH EE 6 3 r3)
 (ifO (decide ((List.length v3)=(List.length v3)))
 (ifO (decide ((((2 * ((List.length v3)+1))+200) * 8)<=281474976710656))
 ((zFS v0 v1 v2 (v3++[(eI (zC r3))]) v4 v5 (IntKind.wrap .i64 (v6+(1:Int)))))
 (none))
 (none))
 (none))
 (λ_ _=>none))
 (none))
 (none))
 (ifO (decide ((0+(List.length v3))<=(List.length v3)))
 (some (.val (.sl 1 (List.take (List.length v3) (List.drop 0 v3)))))
 (none)) :=
 (zk 190 0 _).trans (by kernel_rfl)
theorem C190(x0 x1:DV):zB 190 [x0,x1] =
 ifO (zS (zH EE 6) [300,305] [x0,x1])
 ((L190_0a (zEv x1) (fnA x1) (fnC x1) (elems x0) (((List.length (elems x0)):Nat):Int)))
 (none) :=
 (zM (f:=190) (by kernel_rfl) (by kernel_rfl) (by kernel_rfl) [x0,x1]).trans (by kernel_rfl)
theorem C191(x0:DV):zB 191 [x0] =
 ifO (zS (zH EE 6) [302] [x0])
 (some (.val (eI (zC (nth (flds x0) 1)))))
 (none) :=
 (zM (f:=191) (by kernel_rfl) (by kernel_rfl) (by kernel_rfl) [x0]).trans (by kernel_rfl)
end Go.Am
namespace Go.Am
open Go.Proofs
open Go
variable[OO]
theorem a68_run(g:Nat->St->Option CR)(s sec:DV):run (zB) g (a68 s sec) =
 ifO (zS (zH EE 6) [58,3] [s,sec])
 (zI (zB 158 [(.agg 0 [(.str (ze (nth (flds s) 0))),(.int .i64 (zC (nth (flds s) 1))),(.sl 3 (elems (nth (flds s) 2)))])])
 (λr0=>ifO (zH EE 6 46 r0)
 (ifO (bne (zC r0) 0)
 (some (.val (.tup [(.sl 1 []),(.int .i64 (zC r0))])))
 (zI (zB 147 [(.int .i64 (zC sec))])
 (λr1=>ifO ((DV.isTup r1) && (zS (zH EE 6) [251,46] (tups r1)))
 (ifO (bne (zC (nth (tups r1) 1)) (0:Int))
 (some (.val (.tup [(.sl 1 []),(.int .i64 (zC (nth (tups r1) 1)))])))
 ((g 0 (zx 47 [(7,(.ptr 7 3 0 [])),(9,(.d .nl)),(26,(.d (.sl 3 (elems (nth (flds s) 2))))),(27,(.d (.int .i64 (((List.length (elems (nth (flds s) 2))):Nat):Int)))),(28,(.d (.int .i64 0)))] [(7,(.mk false (.dc 3 [(.agg 9 [(.int .i64 (zC (nth (flds (nth (tups r1) 0)) 0))),(.agg 1 [(.int .i64 (zC (nth (flds (nth (flds (nth (tups r1) 0)) 1)) 0))),(.int .i64 (zC (nth (flds (nth (flds (nth (tups r1) 0)) 1)) 1)))])])])))]))))
 (none))
 (λ_ _=>none)))
 (none))
 (λ_ _=>none))
 (none):=by kernel_rfl
theorem l68_run(g:Nat->St->Option CR)(sec x y:Int)(tb l:List DV)(v27 v28:Int):run (zB) g (l68 sec x y tb l v27 v28) =
 ifO (decide (v28<v27))
 (ifO (decide (((0:Int)<=v28)/\(v28<(((List.length tb):Nat):Int))))
 (ifO (zH EE 6 176 (nth tb (Int.toNat v28)))
 (zI (zB 187 [(.agg 9 [(.int .i64 sec),(.agg 1 [(.int .i64 x),(.int .i64 y)])]),(.agg 1 [(.int .i64 (zC (nth (flds (nth (flds (nth tb (Int.toNat v28))) 1)) 0))),(.int .i64 (zC (nth (flds (nth (flds (nth tb (Int.toNat v28))) 1)) 1)))])])
 (λr0=>ifO (zH EE 6 3 r0)
 (ifO (decide ((List.length l)=(List.length l)))
 (ifO (decide ((((2 * ((List.length l)+1))+200) * 16)<=281474976710656))
 ((g 0 (zx 47 [(7,(.ptr 7 3 0 [])),(9,(.own 41 0 (List.length (l++[(.agg 1 [(.int .i64 (zC r0)),(.int .i64 v28)])])) 2)),(26,(.d (.sl 3 tb))),(27,(.d (.int .i64 v27))),(28,(.d (.int .i64 (IntKind.wrap .i64 (v28+(1:Int))))))] [(7,(.mk false (.dc 3 [(.agg 9 [(.int .i64 sec),(.agg 1 [(.int .i64 x),(.int .i64 y)])])]))),(41,(.mk false (.dc 2 (l++[(.agg 1 [(.int .i64 (zC r0)),(.int .i64 v28)])]))))])))
 (none))
 (none))
 (none))
 (λ_ _=>none))
 (none))
 (none))
 ((g 900 (zx 47 [(7,(.ptr 7 3 0 [])),(9,(.own 41 0 (List.length l) 2)),(26,(.d (.sl 3 tb))),(27,(.d (.int .i64 v27))),(28,(.d (.int .i64 v28))),(29,(.d (.bool false)))] [(7,(.mk false (.dc 3 [(.agg 9 [(.int .i64 sec),(.agg 1 [(.int .i64 x),(.int .i64 y)])])]))),(41,(.mk false (.dc 2 l)))]))):=by kernel_rfl
theorem z68_run(g:Nat->St->Option CR)(sec x y:Int)(tb:List DV)(v27 v28:Int):run (zB) g (z68 sec x y tb v27 v28) =
 ifO (decide (v28<v27))
 (ifO (decide (((0:Int)<=v28)/\(v28<(((List.length tb):Nat):Int))))
 (ifO (zH EE 6 176 (nth tb (Int.toNat v28)))
 (zI (zB 187 [(.agg 9 [(.int .i64 sec),(.agg 1 [(.int .i64 x),(.int .i64 y)])]),(.agg 1 [(.int .i64 (zC (nth (flds (nth (flds (nth tb (Int.toNat v28))) 1)) 0))),(.int .i64 (zC (nth (flds (nth (flds (nth tb (Int.toNat v28))) 1)) 1)))])])
 (λr0=>ifO (zH EE 6 3 r0)
 ((g 0 (zx 47 [(7,(.ptr 7 3 0 [])),(9,(.own 41 0 (List.length [(DV.agg 1 [(.int .i64 (zC r0)),(.int .i64 v28)])]) 2)),(26,(.d (.sl 3 tb))),(27,(.d (.int .i64 v27))),(28,(.d (.int .i64 (IntKind.wrap .i64 (v28+(1:Int))))))] [(7,(.mk false (.dc 3 [(.agg 9 [(.int .i64 sec),(.agg 1 [(.int .i64 x),(.int .i64 y)])])]))),(41,(.mk false (.dc 2 [(.agg 1 [(.int .i64 (zC r0)),(.int .i64 v28)])])))])))
 (none))
 (λ_ _=>none))
 (none))
 (none))
 ((g 900 (zx 47 [(7,(.ptr 7 3 0 [])),(9,(.d .nl)),(26,(.d (.sl 3 tb))),(27,(.d (.int .i64 v27))),(28,(.d (.int .i64 v28))),(29,(.d (.bool false)))] [(7,(.mk false (.dc 3 [(.agg 9 [(.int .i64 sec),(.agg 1 [(.int .i64 x),(.int .i64 y)])])])))]))):=by kernel_rfl
theorem t68_run(g:Nat->St->Option CR)(l:List DV):run (zB) g (t68 l) =
 ifO (decide ((0+(List.length l))<=(List.length l)))
 (zI (zB 190 [(.sl 2 (List.take (List.length l) (List.drop 0 l))),(.fn 191 [] [])])
 (λr0=>ifO (zH EE 6 25 r0)
 (some (.val (.tup [(.sl 1 (elems r0)),(.int .i64 0)])))
 (none))
 (λ_ _=>none))
 (none):=by kernel_rfl
theorem u68_run(g:Nat->St->Option CR):run (zB) g (u68) =
 zI (zB 190 [(.sl 2 []),(.fn 191 [] [])])
 (λr0=>ifO (zH EE 6 25 r0)
 (some (.val (.tup [(.sl 1 (elems r0)),(.int .i64 0)])))
 (none))
 (λ_ _=>none):=by kernel_rfl
theorem c191(p:Pt):zB 191 [ePt p]=some (.val (eI p.y)):=by rw[C191];simp
theorem l190b(l:List Pt)(hl:l.length<=100000) :
  ∀i,i<=l.length->zFS 191 [] [] ((l.take i).map λx=>eI x.y) (l.map ePt) l.length i=some (.val (.sl 1 ((l.map (·.y)).map eI))):=by
 apply down
 ·rw[zFR];simp;exact(List.take_of_length_le (by simp)).trans (by simp)
 ·intro i hi ih;have e1:(i:Int)<l.length:=by omega
  have hx:=c191 l[i];have hm:min i l.length=i:=by omega
  have e2:(2 * (i+1)+200) * 8<=281474976710656:=by omega
  have hcn:∀x:DV,zu EE 191 [x]=[cnE EE 302 x]:=λx=>by kernel_rfl
  have hcn2:∀p:Pt,cnE EE 302 (ePt p)=ePt p:=λp=>by kernel_rfl
  rw[<-ih,zFR];simp only[zX];have hy:∀p:Pt,zB 191 (zu EE 191 (([]++[ePt p])++[]))=some (.val (eI p.y)):=λp=>by rw[List.nil_append,List.append_nil,hcn,hcn2];exact c191 p
  simp only[ePt,eI] at hy;simp[e1,zP _ l i hi,hm,e2,wr ((i:Int)+1) (by omega)]
  have:=hy l[i];simp only[List.nil_append,List.append_nil] at this;rw[this];simp;congr 1;rw[List.take_succ,List.getElem?_map,List.getElem?_eq_getElem hi];rfl
theorem c190(l:List Pt)(hl:l.length<=100000):zB 190 [.sl 2 (l.map ePt),.fn 191 [] []]=some (.val (.sl 1 ((l.map (·.y)).map eI))):=by
 rw[C190];simp only[zL,zN,h300,h305,Bool.and_self,zF,zQ,Yx,Qb,Qa,List.length_map];rw[L190_0a_eq];simp only[zX];by_cases h:l=[]
 ·simp[h]
 ·have h0:0<l.length:=List.length_pos_iff.2 h;have h1:=l190b l hl 1 (by omega)
  have hcn:∀p:Pt,zB 191 (zu EE 191 [ePt p])=some (.val (eI p.y)):=λp=>(congrArg (zB 191) (show zu EE 191 [ePt p]=[ePt p] by kernel_rfl)).trans (c191 p)
  have hx:=hcn l[0];rw[tk1 l h0] at h1;simp only[ePt,eI] at hx;simp[h0,zP _ l 0 h0,hx];simpa using h1
end Go.Am
namespace Go.Am
open Go.Proofs
open Go Go.RowKit Go.Sort Go.Proofs
def JK(p:Pt):List Value:=[.int .i64 p.x,.int .i64 p.y]
theorem flat2(f:Nat->Pt):∀n,(List.range (n * 2)).map (λt=>(JK (f (t / 2)))[t % 2]!)=((List.range n).map λi=>JK (f i)).flatten
 | 0=>rfl
 | n+1=>by
  rw[show(n+1) * 2=n * 2+1+1 by omega,List.range_succ,List.range_succ,List.range_succ,List.map_append,List.map_append,flat2 f n,List.map_append,List.flatten_append]
  have e1:n * 2 / 2=n:=by omega
  have e2:n * 2 % 2=0:=by omega
  have e3:(n * 2+1) / 2=n:=by omega
  have e4:(n * 2+1) % 2=1:=by omega
  simp[e1,e2,e3,e4,JK]
theorem Q4(l:List Pt):(flatK JK 2 l.toArray).toList=(l.map JK).flatten:=by
 have h:(flatK JK 2 l.toArray).toList=(List.range (l.length * 2)).map (λt=>(JK (l.getD (t / 2) default))[t % 2]!):=by
  unfold flatK;simp only[Array.toList_map,Array.toList_range,List.size_toArray];refine List.map_congr_left λt ht=>?_
  have:t / 2<l.length:=by have:=List.mem_range.1 ht;omega
  simp[this]
 rw[h,flat2 (λi=>l.getD i default)]
 congr 1;refine List.ext_getElem (by simp) λi h1 h2=>?_
 have:i<l.length:=by simpa using h2
 simp[this]
section
variable{w:World}{blk n:Nat}{os:Array Obj}{d:Array Pt}
theorem zIp{j:Nat}(hj:j<w.heap.size)(hne:j≠blk):(sortWorldK JK 2 w blk 0 n d os).heap[j]? = w.heap[j]?:=by
 unfold sortWorldK putRowK putRow mapBlock Sort.ahead;rw[heap_grow_old _ _ (by simpa using hj)]
 simp only[Array.getElem?_modify];rw[if_neg (λe=>hne e.symm)]
theorem zGv{cur:Array Value}{t:TypeId}{fr:Nat×Nat}(h:w.heap[blk]? = some (.cells cur t fr)):(sortWorldK JK 2 w blk 0 n d os).heap[blk]? = some (.cells (putCells id 0 (flatK JK 2 d) cur) t fr):=by
 have hj:blk<w.heap.size:=(Array.getElem?_eq_some_iff.1 h).1;unfold sortWorldK putRowK putRow mapBlock Sort.ahead;rw[heap_grow_old _ _ (by simpa using hj)]
 simp only[Array.getElem?_modify,if_true,h];rfl
theorem sortK_size:w.heap.size<=(sortWorldK JK 2 w blk 0 n d os).heap.size:=by unfold sortWorldK putRowK putRow mapBlock Sort.ahead grow;simp
theorem zDy{F cur:Array Value}(h:F.size<=cur.size):F.toList <+: (putCells id 0 F cur).toList:=by
 rw[List.prefix_iff_eq_take];refine List.ext_getElem (by simp[putCells,h]) λi h1 h2=>?_
 have hi:i<F.size:=by simpa using h1
 simp[putCells,hi]
theorem sortK_but{cur:Array Value}{t:TypeId}(h:w.heap[blk]? = some (.cells cur t (0,0))):But blk w (sortWorldK JK 2 w blk 0 n d os) :=
 ⟨rfl,rfl,rfl,sortK_size,λk hk hne=>zIp hk hne,λm ⟨cs,t',h1,h2⟩=>by
  rw[h] at h1;injection h1 with h1
  injection h1 with h3 h4 h5;subst h3
  exact⟨_,t,zGv h,by simpa[putCells] using h2⟩⟩
end
section
variable{L:Nat->List Nat}{S:Nat->Prop}{φ:Nat->Option Nat}{w:World}{cb:Nat}
theorem RB.pts{l:List Pt}(h:RB L S φ w (.dc 2 (l.map ePt)) cb):∃(cs:Array Value) (t:TypeId),w.heap[cb]? = some (.cells cs t (0,0))/\(l.map JK).flatten <+: cs.toList:=by
 obtain⟨cs,t,css,h1,h2,h3,h4,h5⟩:=h;refine⟨cs,t,h1,?_⟩;have:css=l.map JK:=by
  refine List.ext_getElem (by simpa using h2) λi a b=>?_
  have h:=h3 i (by simpa using b) a
  rw[List.getElem_map] at h ⊢;generalize css[i]=c at h;have b':i<l.length:=by simpa using b
  generalize l[i]'b'=p at h ⊢;unfold ePt at h;cases h with
  | agg _ _ css hl hh hz =>
   match css,hl with
   | [a,b],_ =>
    have ha:=hh 0 (by simp) (by simp)
    have hb:=hh 1 (by simp) (by simp)
    simp only[List.getElem_cons_zero,List.getElem_cons_succ] at ha hb;rw[RD.int1 ha,RD.int1 hb];rfl
 rw[<-this];exact h5
theorem RB.of_pts(hL:L 1=[1,1]){l:List Pt}{cs:Array Value}{t:TypeId}(h:w.heap[cb]? = some (.cells cs t (0,0)))(hp:(l.map JK).flatten <+: cs.toList):RB L S φ w (.dc 2 (l.map ePt)) cb:=by
 refine⟨cs,t,l.map JK,h,by simp,λi a b=>?_,λc hc=>?_,hp⟩
 ·simp only[List.getElem_map];refine RD.agg 1 [_,_] [[_],[_]] rfl (λi a b=>?_) (by rw[hL];rfl)
  match i,a with
  | 0,_=>exact .int _ _
  | 1,_=>exact .int _ _
 ·obtain⟨p,_,rfl⟩:=List.mem_map.1 hc;rfl
theorem holds_pts{l:List Pt}{cs:Array Value}{t:TypeId}(h:w.heap[cb]? = some (.cells cs t (0,0)))(hp:(l.map JK).flatten <+: cs.toList):HoldsK JK 2 w cb 0 l.toArray:=by
 intro j hj;have hj':j<(flatK JK 2 l.toArray).toList.length:=by simpa using hj
 rw[Q4] at hj';obtain⟨rest,hr⟩:=hp;have e:cs[j]? = some ((flatK JK 2 l.toArray)[j]!):=by
  have e1:cs.toList[j]? = (flatK JK 2 l.toArray).toList[j]?:=by rw[<-hr,List.getElem?_append_left hj',Q4]
  rw[Array.getElem?_toList,Array.getElem?_toList] at e1;rw[e1,getElem!_pos _ j hj];simp[hj]
 rw[Nat.zero_add];refine⟨?_,?_⟩
 ·unfold World.cell?;simp only[h,id];exact e
 ·unfold World.frozen?;simp[h]
end
end Go.Am
namespace Go.Am
open Go.Proofs
open Go Go.RowKit Go.Sort
attribute [local go_sem] Oper.semAt_some
theorem zIq{w:World}{blk n:Nat}{os:Array Obj}{l:List Int}{j:Nat}(hj:j<w.heap.size)(hne:j≠blk):(grow (putRow (Value.int .i64) (Sort.ahead w n) blk 0 l.toArray) os).heap[j]? = w.heap[j]?:=by
 unfold putRow mapBlock Sort.ahead;rw[heap_grow_old _ _ (by simpa using hj)]
 simp only[Array.getElem?_modify];rw[if_neg (λe=>hne e.symm)]
theorem sort1_blk{w:World}{blk n:Nat}{os:Array Obj}{l:List Int}{cur:Array Value}{t:TypeId}{fr:Nat×Nat}(h:w.heap[blk]? = some (.cells cur t fr)):(grow (putRow (Value.int .i64) (Sort.ahead w n) blk 0 l.toArray) os).heap[blk]? = some (.cells (putCells (Value.int .i64) 0 l.toArray cur) t fr):=by
 have hj:blk<w.heap.size:=(Array.getElem?_eq_some_iff.1 h).1;unfold putRow mapBlock Sort.ahead;rw[heap_grow_old _ _ (by simpa using hj)]
 simp only[Array.getElem?_modify,if_true,h];rfl
theorem sort1_size{w:World}{blk n:Nat}{os:Array Obj}{l:List Int}:w.heap.size<=(grow (putRow (Value.int .i64) (Sort.ahead w n) blk 0 l.toArray) os).heap.size:=by unfold putRow mapBlock Sort.ahead grow;simp
def j5(l:List Int):List Int:=l.mergeSort λx y=>decide (x<=y)
theorem Y5(l:List Int):(j5 l).length=l.length:=List.length_mergeSort l
theorem sort_owned{w:World}{base:Nat}{v:Value}(l:List Int)(hl:l.length<=100000)(hv:w.ownsRow base 3 1 v l.length (l.map (Value.int .i64))) :
  Calls Tryz.prog 286 #[v] w λe w'=>e=.returned (.tuple #[])/\w'.ownsRow base 3 1 v l.length ((j5 l).map (Value.int .i64))/\(∀b0,b0<=base->Below b0 w w'):=by
 rcases hv.2 with ⟨rfl,e0⟩ | ⟨g,cap,cur,rfl,e2,e3,e4,e5,e6,e7⟩
 ·obtain rfl:=List.length_eq_zero_iff.1 e0;refine(Tryz.slices_Sort_int_none none 0 w).mono λe w' ⟨h1,h2⟩=>⟨h1,?_,λ_ _=>h2 ▸ Below.refl _ _⟩
  subst h2;simpa[j5] using hv
 ·have hlt:g<w.heap.size:=(Array.getElem?_eq_some_iff.1 e3).1;rw[Nat.mul_one] at e6 e7;have hH:Holds (Value.int .i64) w g 0 l.toArray:=by
   intro j hj;have hj':j<l.length:=by simpa using hj
   rw[Nat.zero_add];refine⟨?_,by unfold World.frozen?;simp[e3]⟩
   unfold World.cell?;simp only[e3];have h:=congrArg (λx:List Value=>x[j]?) e7
   simp only[List.getElem?_take,hj',if_true,List.getElem?_map,List.getElem?_eq_getElem hj',Option.map_some] at h;rw[Array.getElem?_toList] at h;rw[getElem!_pos _ j hj];simpa using h
  refine(Tryz.slices_Sort_int g 0 cap l w hH hlt (by omega)).mono λe w' ⟨h1,n,os,h2⟩=>⟨h1,?_,λb0 hb=>?_⟩
  ·subst h2;have hs:(j5 l).length<=cur.size:=by rw[Y5];omega
   refine⟨by simp[Y5],.inr ⟨g,cap,_,rfl,e2,sort1_blk (l:=j5 l) e3,e4,e5,by simp[putCells,e6],?_⟩⟩
   rw[Nat.mul_one];refine List.ext_getElem (by simp[putCells,Y5];omega) λi h1 h2=>?_
   have hi:i<(j5 l).length:=by simpa using h2
   simp[putCells,hi]
  ·subst h2;exact⟨rfl,rfl,rfl,sort1_size,λk hk=>zIq (by omega) (by omega)⟩
set_option maxRecDepth 100000 in
set_option maxHeartbeats 2000000 in
theorem zEW(gf:Nat)(lb:Array Value)(l:List Int)(hl:l.length<=100000)(W:World)(C:World->Prop)(eg:∀args w,(callFunc gf args).run Tryz.prog w=.ok (.enter gf args) w)
  (hseq:SeqR Tryz.prog gf lb (l.map encI) C) (hC:∀V,Below W.heap.size W V->C V) :
  Calls Tryz.prog 245 #[.func (.func gf) #[] lb] W λe w'=>∃v,e=.returned v/\w'.ownsRow (W.heap.size+1) 3 1 v l.length ((j5 l).map (Value.int .i64))/\Below W.heap.size W w':=by
 have happ:=append_seq gf lb l hl W C eg hseq hC;have hcol:Calls Tryz.prog 285 #[.func (.func gf) #[] lb] W λe w'=>∃v,e=.returned v/\w'.ownsRow (W.heap.size+1) 3 1 v l.length (l.map (Value.int .i64))/\Below W.heap.size W w':=by
  clear hseq hC eg
  go_enter Tryz.func285,Tryz.ntmps285
  go_wp2_with (go_at_call 327;refine happ.mono ?_;rintro e w' ⟨v,rfl,hv,hB⟩)
  go_ret;exact⟨_,rfl,hv,hB⟩
 clear happ hseq hC eg
 go_enter Tryz.func245,Tryz.ntmps245
 go_wp2_with (go_at_call 285;refine hcol.mono ?_;rintro e w' ⟨v,rfl,hv,hB⟩)
 ·have hsort:=sort_owned l hl hv;have hb1:W.heap.size<=w'.heap.size:=hB.size;clear hcol
  go_wp2_with (go_at_call 286;refine hsort.mono ?_;rintro e w2 ⟨rfl,hv2,hB2⟩)
  go_ret;exact⟨_,rfl,hv2,hB.trans (hB2 _ (by omega))⟩
end Go.Am
namespace Go.Am
open Go.Proofs
open Go Go.RowKit Go.Maps
section
variable{H:Type}
def fD(D:DataW H)(m:Int):Option Int:=if Maps.has D (.int .i64 m)=true then (match D.atKey (.int .i64 m) (.lit (.int .i64 0)) with | .lit (.int .i64 v)=>some v | _=>none) else none
theorem fD_put{D:DataW H}(hD:IsMap D)(m v m':Int):fD (D.put (.int .i64 m) (.lit (.int .i64 v))) m'=if m'=m then some v else fD D m':=by
 obtain⟨es,rfl⟩:=hD;unfold fD;by_cases h:m'=m
 ·subst h;rw[if_pos rfl,has_put_same (k:=.int .i64 m') ⟨es,rfl⟩ trivial,atKey_put_same (k:=.int .i64 m') ⟨es,rfl⟩ trivial];rfl
 ·rw[if_neg h,has_put_other (by simpa using h),atKey_put_other (by simpa using h)]
end
theorem atKey_none{H:Type}{D:DataW H}{k:Lit}(h:Maps.has D k=false)(z:DataW H):D.atKey k z=z:=by
 cases D <;> try rfl
 rename_i es;have h:es.any (λp=>p.1.sameKey k)=false:=h
 show(match es.find? (λp=>p.1.sameKey k) with | some p=>p.2 | none=>z)=z
 rw[List.find?_eq_none.2 (λp hp=>by simpa using List.any_eq_false.1 h p hp)]
theorem fD_at{H:Type}{D:DataW H}{m v:Int}(h:∀zd,D.atKey (.int .i64 m) zd=.lit (.int .i64 v)):fD D m=some v:=by
 have hh:Maps.has D (.int .i64 m)=true:=by
  cases hb:Maps.has D (.int .i64 m) with
  | true=>rfl
  | false =>
   have e1:=h (.lit (.int .i64 (v+1)));rw[atKey_none hb] at e1;injection e1 with e1
   injection e1 with _ e1;omega
 unfold fD;rw[if_pos hh,h]
theorem zEz{H:Type}{D:DataW H}{m c:Int}(h:D.atKey (.int .i64 m) (.lit (.int .i64 0))=.lit (.int .i64 c)):fD D m=if Maps.has D (.int .i64 m)=true then some c else none:=by unfold fD;rw[h]
theorem law3:Keyed Tryz.prog 3:=int_keyed Tryz.underlying3
noncomputable def k171:Code:=match Tryz.f171.body with | some c=>c | none=>.skip
def q1:Code->Code | .seq x _=>x | c=>c
def q2:Code->Code | .seq _ y=>y | c=>c
def qb:Code->Code | .block _ c=>c | c=>c
def ql:Code->Code | .loop c=>c | c=>c
noncomputable def k171G:Code:=ql (qb (q2 (q1 (q2 (q2 k171)))))
noncomputable def k171B:Code:=qb (q1 (q2 (q2 k171G)))
noncomputable def k171M:Code:=ql (qb (q2 (q1 (q2 (q2 (q2 k171B))))))
noncomputable def k171C:Code:=qb (q1 (q2 (q2 k171M)))
noncomputable def k171I:Code:=qb (q2 (q2 (q2 (q2 k171C))))
def zGr(be:Int)(x y:Option Int):Option Int:=match x with
 | none=>y
 | some e=>match y with
  | none=>some (e+be)
  | some old=>some (if e+be>old then e+be else old)
theorem zJN(m x:Int):(Lit.int .i64 m).sameKey (.int .i64 x)=decide (m=x):=by show decide (IntKind.i64=IntKind.i64/\m=x)=_;simp
theorem rel_put{H:Type}{D0 Dn0 Dn:DataW H}{left:Lit->Bool}{x c e be:Int}(hA:∀m,fD Dn m=if left (.int .i64 (m - c))=true then fD Dn0 m else zGr be (fD D0 (m - c)) (fD Dn0 m))(hm:IsMap Dn)(hx:fD D0 x=some e)
  (hl:left (.int .i64 x)=true) (hn:∀old,fD Dn (x+c)=some old->e+be>old) :
  ∀m,fD (Dn.put (.int .i64 (x+c)) (.lit (.int .i64 (e+be)))) m=if (left (.int .i64 (m - c)) && !(Lit.int .i64 (m - c)).sameKey (.int .i64 x))=true then fD Dn0 m else zGr be (fD D0 (m - c)) (fD Dn0 m):=by
 intro m;rw[fD_put hm,zJN];by_cases h:m=x+c
 ·subst h;have e1:x+c - c=x:=by omega
  have h0:=hA (x+c);rw[e1,if_pos hl] at h0;rw[if_pos rfl,e1,hl,hx];simp only[decide_true,Bool.not_true,Bool.and_false,Bool.false_eq_true,if_false,zGr];cases hd:fD Dn0 (x+c) with
  | none=>rfl
  | some old =>
   have:=hn old (h0.trans hd);simp only;rw[if_pos this]
 ·rw[if_neg h,hA m,decide_eq_false (by omega)]
  simp
theorem rel_same{H:Type}{D0 Dn0 Dn:DataW H}{left:Lit->Bool}{x c e be old:Int}(hA:∀m,fD Dn m=if left (.int .i64 (m - c))=true then fD Dn0 m else zGr be (fD D0 (m - c)) (fD Dn0 m))(hx:fD D0 x=some e)
  (hl:left (.int .i64 x)=true) (ho:fD Dn (x+c)=some old) (hn:¬e+be>old) :
  ∀m,fD Dn m=if (left (.int .i64 (m - c)) && !(Lit.int .i64 (m - c)).sameKey (.int .i64 x))=true then fD Dn0 m else zGr be (fD D0 (m - c)) (fD Dn0 m):=by
 intro m;rw[zJN];by_cases h:m=x+c
 ·subst h;have e1:x+c - c=x:=by omega
  have h0:=hA (x+c);rw[e1,if_pos hl] at h0;rw[e1,hl,hx];simp only[decide_true,Bool.not_true,Bool.and_false,Bool.false_eq_true,if_false,zGr];rw[ho] at h0 ⊢;rw[<-h0];simp only;rw[if_neg hn]
 ·rw[hA m,decide_eq_false (by omega)]
  simp
structure KeepM(W w:World)(r bn:Nat):Prop where
 os:w.os=W.os
 tape:w.tape=W.tape
 output:w.output=W.output
 size:W.heap.size<=w.heap.size
 block:∀k,k<W.heap.size->k≠r->k≠bn->w.heap[k]? = W.heap[k]?
theorem KeepM.refl(W:World)(r bn:Nat):KeepM W W r bn:=⟨rfl,rfl,rfl,Nat.le_refl _,λ_ _ _ _=>rfl⟩
theorem KeepM.grown{W w w':World}{r bn j:Nat}(h:KeepM W w r bn)(hg:w.grownBy w' (some j))(hj:j=r\/j=bn):KeepM W w' r bn :=
 ⟨hg.os.trans h.os,hg.tape.trans h.tape,hg.output.trans h.output,Nat.le_trans h.size hg.size,λk h1 h2 h3=>(hg.block k (by have:=h.size;omega) (λe=>by injection e with e;rcases hj with rfl | rfl <;> omega)).trans (h.block k h1 h2 h3)⟩
set_option maxRecDepth 100000 in
set_option maxHeartbeats 4000000 in
theorem inner171{H:Type}(W:World)(sa:Option Addr)(b bn ab r n kn:Nat)(c be:Int)(D0 Dn0:DataW H)(u1 u2 u3 u4 u6 u7 u8 u12 u13 u14 u15 u16 u17 u18 u19 u20 u21 u22 u23 u24 u25 u26 u27 u28 u29 u30 u31 u32 u33 u34 u35 u36 u37 u38 u39 u40 u41 u42 u43 u44 u46 u47 u48 u49 u50 u51 u52 u53 u54 u55 u56 u57 u58 u59 u60 u61 u62 u63 u64 u65 u66 u67 u68 u69 u70 u71 u72 u73 u74 u75 u76 u77 u78 u79 u80:Value)
  (hrg:W.ranges Tryz.prog 3 (plainElem Tryz.prog 3) b r n D0 (Maps.has D0) (Maps.size D0)) (hout:W.ownsMap Tryz.prog 3 (plainElem Tryz.prog 3) bn kn Dn0)
  (hbc:W.cell? ⟨ab,1,none⟩=some (.int .i64 be)) (hbr:b≠r/\bn≠r/\b≠bn) (hab:ab≠r/\ab≠bn) (hb64:∀m v,fD D0 m=some v->0<=m/\m<=100/\0<=v/\v<=2000000000000000000) (hn64:∀m v,fD Dn0 m=some v->0<=v/\v<=2000000000000000000)
  (hc64:0<=c/\c<=100) (he64:0<=be/\be<=2000000000000000000) (hkn:kn+Maps.size D0<maxLen)
  (Q:Exit->Act->World->Prop) (hQ:∀(v13 v14 v15 v16 v46 v47 v48 v49 v50 v51 v52 v53 v54 v55 v56 v57 v58 v59 v60 v61 v62 v63 v64 v65 v66 v67 v68 v69 v70 v71 v72 v73 v74 v75 v76:Value) (Dn:DataW H) (cnt:Nat) (w':World),w'.ranges Tryz.prog 3 (plainElem Tryz.prog 3) b r n D0 (λ_=>false) 0->w'.ownsMap Tryz.prog 3 (plainElem Tryz.prog 3) bn (kn+Maps.size D0) Dn ->
   (∀m,fD Dn m=zGr be (fD D0 (m - c)) (fD Dn0 m))->KeepM W w' r bn->Q (.exit 4) { tmps:=#[.pointer sa,u1,u2,u3,u4,.map (some b),u6,u7,u8,.map (some bn),.int .i64 c,.pointer (some ⟨ab,0,none⟩),u12,v13,v14,v15,v16,u17,u18,u19,u20,u21,u22,u23,u24,u25,u26,u27,u28,u29,u30,u31,u32,u33,u34,u35,u36,u37,u38,u39,u40,u41,u42,u43,u44,.pointer (some ⟨r,0,none⟩),v46,v47,v48,v49,v50,v51,v52,v53,v54,v55,v56,v57,v58,v59,v60,v61,v62,v63,v64,v65,v66,v67,v68,v69,v70,v71,v72,v73,v74,v75,v76,u77,u78,u79,u80],defers:=[] } w'):k171I.wp Tryz.prog Q { tmps:=#[.pointer sa,u1,u2,u3,u4,.map (some b),u6,u7,u8,.map (some bn),.int .i64 c,.pointer (some ⟨ab,0,none⟩),u12,u13,u14,u15,u16,u17,u18,u19,u20,u21,u22,u23,u24,u25,u26,u27,u28,u29,u30,u31,u32,u33,u34,u35,u36,u37,u38,u39,u40,u41,u42,u43,u44,.pointer (some ⟨r,0,none⟩),u46,u47,u48,u49,u50,u51,u52,u53,u54,u55,u56,u57,u58,u59,u60,u61,u62,u63,u64,u65,u66,u67,u68,u69,u70,u71,u72,u73,u74,u75,u76,u77,u78,u79,u80],defers:=[] } W:=by
 dsimp only[k171I,k171C,k171M,k171B,k171G,k171,q1,q2,qb,ql,Tryz.f171];have zeroE:∀w,(zeroValue 3).run Tryz.prog w=.ok (.int .i64 0) w:=λw=>by kernel_rfl
 go_loopw [46] (λ_ wr=>∃(left:Lit->Bool) (cnt:Nat) (Dn:DataW H),wr.ranges Tryz.prog 3 (plainElem Tryz.prog 3) b r n D0 left cnt/\cnt<=Maps.size D0 /\
   wr.ownsMap Tryz.prog 3 (plainElem Tryz.prog 3) bn (kn+(Maps.size D0 - cnt)) Dn/\(∀m,fD Dn m=if left (.int .i64 (m - c))=true then fD Dn0 m else zGr be (fD D0 (m - c)) (fD Dn0 m))/\KeepM W wr r bn)
  (λ_ wr=>wr.rangeLeft b r)
 case atStart =>
  refine⟨_,_,Dn0,hrg,Nat.le_refl _,by simpa using hout,λm=>?_,KeepM.refl _ _ _⟩
  by_cases h:Maps.has D0 (.int .i64 (m - c))=true
  ·rw[if_pos h]
  ·rw[if_neg h];have:fD D0 (m - c)=none:=by unfold fD;rw[if_neg h]
   rw[this];rfl
 case round =>
  obtain⟨left,cnt,Dn,hrg,hcs,hout,hA,hnx⟩:=hrel
  go_wp2_with (first
   | (at_next;refine wpList_next_ranges_ii _ rfl _ rfl 3 3 .i64 .i64 law3 Tryz.underlying3 Tryz.underlying3 b r n _ _ _ rfl hrg ?_ ?_)
   | go_in)
  ·intro hc0 hl0;go_wp2;subst hc0;have hlf:left=λ_=>false:=funext hl0
   subst hlf;exact hQ _ _ _ _ _ _ _ _ _ _ _ _ _ _ _ _ _ _ _ _ _ _ _ _ _ _ _ _ _ _ _ _ _ _ _ Dn 0 wr hrg (by simpa using hout) (λm=>by simpa using hA m) hnx
  ·intro x e w1 cnt1 hwx hwc hlx hat hrg1 hlt hg1 hs1 hen;have hout1:=hout.kept hg1 (by simpa using hbr.2.1)
   have hfx:=fD_at hat;obtain⟨x1,x2,e1,e2⟩:=hb64 x e hfx;have hnx1:=hnx.grown hg1 (.inl rfl);have hbc1:w1.cell? ⟨ab,1,none⟩=some (.int .i64 be) :=
    (World.cell?_of_block (a:=⟨ab,1,none⟩) (hnx1.block ab (World.block_lt_of_cell? _ _ hbc) hab.1 hab.2)).trans hbc
   have hwk:(Lit.int .i64 (x+c)).wf=true:=WalkArith.wf_i64 (by omega)
   have hwe:(Lit.int .i64 (e+be)).wf=true:=WalkArith.wf_i64 (by omega)
   have ewr:wrap64 (x+c)=x+c:=by unfold wrap64;omega
   have ewe:wrap64 (e+be)=e+be:=by unfold wrap64;omega
   go_wp2_with (first
    | (at_lookup;refine wpList_lookup_own_ok_int _ rfl _ _ 278 rfl 3 3 .i64 law3 Tryz.underlying278 Tryz.underlying3 (zeroE _) bn _ _ rfl hout1 _ _ rfl (keyOf_int_mk Tryz.underlying3 (by first | exact hwk | (rw[ewr];exact hwk) | (show(Lit.int .i64 (wrap64 (x+c))).wf=true;rw[ewr];exact hwk))) ?_;intro old hold hwo)
    | (at_mapUpdate;refine wpList_mapUpdate_own _ rfl _ _ _ 278 rfl 3 3 law3 Tryz.underlying278 _ bn _ _ rfl hout1 (by omega) _ _ _ rfl rfl (keyOf_int_mk Tryz.underlying3 (by first | exact hwk | (rw[ewr];exact hwk) | (show(Lit.int .i64 (wrap64 (x+c))).wf=true;rw[ewr];exact hwk))) _ [] (plainElem_int Tryz.underlying3 (by first | exact hwe | (rw[ewe];exact hwe) | (show(Lit.int .i64 (wrap64 (e+be))).wf=true;rw[ewe];exact hwe))) ?_;intro w2 hout2 hg2;go_frame)
    | go_in)
   ·have hrg2:=hrg1.kept hg2 (λe=>by have:=Option.some.inj e;omega) (λe=>by have:=Option.some.inj e;omega)
    refine⟨⟨_,cnt1,_,hrg2,by omega,hout2.mono (by omega),rel_put hA hout.isMap hfx hlx (λo ho=>?_),hnx1.grown hg2 (.inr rfl)⟩,by rw[hrg2.left_eq,hrg.left_eq];exact hlt⟩
    rw[zEz hold,if_pos (by assumption)] at ho
    injection ho with ho;have:old<e+be:=by assumption
    omega
   ·refine⟨⟨_,cnt1,_,hrg1,by omega,hout1.mono (by omega),rel_same (old:=old) (e:=e) hA hfx hlx ?_ ?_,hnx1⟩,by rw[hrg1.left_eq,hrg.left_eq];exact hlt⟩
    ·exact(zEz hold).trans (if_pos (by assumption))
    ·have:e+be<=old:=by assumption
     omega
   ·have hrg2:=hrg1.kept hg2 (λe=>by have:=Option.some.inj e;omega) (λe=>by have:=Option.some.inj e;omega)
    refine⟨⟨_,cnt1,_,hrg2,by omega,hout2.mono (by omega),rel_put hA hout.isMap hfx hlx (λo ho=>?_),hnx1.grown hg2 (.inr rfl)⟩,by rw[hrg2.left_eq,hrg.left_eq];exact hlt⟩
    rw[zEz hold,if_neg (by assumption)] at ho
    cases ho
end Go.Am
namespace Go.Am
open Go.Proofs
open Go Go.RowKit Go.Maps
def zEC(d0:Int->Option Int)(bst:Nat->Option Int):Nat->Int->Option Int
 | 0,_=>none
 | k+1,m=>match bst k with
  | none=>zEC d0 bst k m
  | some be=>zGr be (d0 (m - k)) (zEC d0 bst k m)
theorem QU{H:Type}{P:Program}{w w':World}{k b n:Nat}{R:Value->Option (DataW H×List MemPlace)}{D:DataW H}(h:w.ownsMap P k R b n D)(e:w'.heap[b]? = w.heap[b]?):w'.ownsMap P k R b n D:=by unfold World.ownsMap at h ⊢;rw[e];exact h
theorem updP_bnd{be:Int}{x y:Option Int}(hb:0<=be/\be<=1000000000000000000)(hx:∀v,x=some v->0<=v/\v<=1000000000000000000)(hy:∀v,y=some v->0<=v/\v<=2000000000000000000):∀v,zGr be x y=some v->0<=v/\v<=2000000000000000000:=by
 intro v h;unfold zGr at h;cases x with
 | none=>exact hy v h
 | some e =>
  have he:=hx e rfl;cases y with
  | none=>simp at h;omega
  | some old =>
   have ho:=hy old rfl;simp only[Option.some.injEq] at h;split at h <;> omega
set_option maxRecDepth 100000 in
set_option maxHeartbeats 4000000 in
theorem mid171{H:Type}(W:World)(sa:Option Addr)(ov:Value)(b bn n L:Nat)(D0:DataW H)(u1 u2 u3 u4 u6 u7 u10 u11 u12 u13 u14 u15 u16 u17 u18 u19 u20 u21 u22 u23 u24 u25 u26 u27 u28 u29 u30 u33 u34 u35 u36 u37 u38 u39 u40 u41 u42 u43 u44 u45 u46 u47 u48 u49 u50 u51 u52 u53 u54 u55 u56 u57 u58 u59 u60 u61 u62 u63 u64 u65 u66 u67 u68 u69 u70 u71 u72 u73 u74 u75 u76 u77 u78 u79 u80:Value)(bst:Nat->Option Int)
  (hb:W.ownsMap Tryz.prog 3 (plainElem Tryz.prog 3) b n D0) (hbn:W.ownsMap Tryz.prog 3 (plainElem Tryz.prog 3) bn 0 (.map []:DataW H)) (hlt:b<bn)
  (hb64:∀m v,fD D0 m=some v->0<=m/\m<=50/\0<=v/\v<=1000000000000000000) (hL:L<=64)
  (hbest:∀(V:World) (k:Nat),Below bn W V->k<=L->Calls Tryz.prog 162 #[.pointer sa,ov,.slice none 0 0,.int .i64 k] V λe w'=>∃(pa:Option Addr) (pn pc:Nat) (en:Int) (fd:Bool),e=.returned (.tuple #[.agg #[.slice pa pn pc,.int .i64 en],.bool fd])/\Below V.heap.size V w'/\bst k=(if fd=true then some en else none)/\0<=en/\en<=1000000000000000000) (hsz0:Maps.size D0<=1000)
  (Q:Exit->Act->World->Prop) (hQ:∀(v10 v11 v12 v13 v14 v15 v16 v32 v33 v34 v35 v36 v37 v38 v39 v40 v41 v42 v43 v44 v45 v46 v47 v48 v49 v50 v51 v52 v53 v54 v55 v56 v57 v58 v59 v60 v61 v62 v63 v64 v65 v66 v67 v68 v69 v70 v71 v72 v73 v74 v75 v76 v77:Value) (kn:Nat) (Dn:DataW H) (w':World),w'.ownsMap Tryz.prog 3 (plainElem Tryz.prog 3) bn kn Dn->kn<=(L+1) * Maps.size D0->(∀m,fD Dn m=zEC (fD D0) bst (L+1) m) ->
   Below bn W w'->bn<w'.heap.size->Q (.exit 2) { tmps:=#[.pointer sa,u1,u2,u3,u4,.map (some b),u6,u7,ov,.map (some bn),v10,v11,v12,v13,v14,v15,v16,u17,u18,u19,u20,u21,u22,u23,u24,u25,u26,u27,u28,u29,u30,.int .i64 ((L:Int)+1),v32,v33,v34,v35,v36,v37,v38,v39,v40,v41,v42,v43,v44,v45,v46,v47,v48,v49,v50,v51,v52,v53,v54,v55,v56,v57,v58,v59,v60,v61,v62,v63,v64,v65,v66,v67,v68,v69,v70,v71,v72,v73,v74,v75,v76,v77,u78,u79,u80],defers:=[] } w'):(Code.loop k171M).wp Tryz.prog Q { tmps:=#[.pointer sa,u1,u2,u3,u4,.map (some b),u6,u7,ov,.map (some bn),u10,u11,u12,u13,u14,u15,u16,u17,u18,u19,u20,u21,u22,u23,u24,u25,u26,u27,u28,u29,u30,.int .i64 ((L:Int)+1),.int .i64 0,u33,u34,u35,u36,u37,u38,u39,u40,u41,u42,u43,u44,u45,u46,u47,u48,u49,u50,u51,u52,u53,u54,u55,u56,u57,u58,u59,u60,u61,u62,u63,u64,u65,u66,u67,u68,u69,u70,u71,u72,u73,u74,u75,u76,u77,u78,u79,u80],defers:=[] } W:=by
 dsimp only[k171M,k171B,k171G,k171,q1,q2,qb,ql,Tryz.f171]
 go_loopw [32] (λp wr=>∃(k kn:Nat) (Dn:DataW H),p=.int .i64 k/\k<=L+1/\wr.ownsMap Tryz.prog 3 (plainElem Tryz.prog 3) bn kn Dn/\kn<=k * Maps.size D0/\(∀m,fD Dn m=zEC (fD D0) bst k m)/\(∀m v,fD Dn m=some v->0<=v/\v<=2000000000000000000)/\Below bn W wr/\bn<wr.heap.size)
  (λp _=>L+1 - QI p)
 case atStart=>exact⟨0,0,.map [],rfl,by omega,hbn,Nat.zero_le _,λm=>rfl,(λm v h=>by cases h),Below.refl _ _,hbn.lt⟩
 case round =>
  obtain⟨k,kn,Dn,rfl,hk,hown,hkn,hA,hAb,hB,hs⟩:=hrel;by_cases hkl:k<L+1
  ·have hbl:b<wr.heap.size:=by omega
   have hbw:wr.ownsMap Tryz.prog 3 (plainElem Tryz.prog 3) b n D0:=QU hb (hB.block b hlt);have hcall:=hbest wr k hB (by omega)
   go_wp2_with (first
    | (go_at_call 162;refine hcall.mono ?_;rintro e w1 ⟨pa,pn,pc,en,fd,rfl,hB1,hfd,hen1,hen2⟩;have hb1:=QU hbw (hB1.block b hbl))
    | (at_range;refine wpList_range_own _ rfl _ 278 rfl 3 3 law3 Tryz.underlying278 _ b n _ rfl (hb1.alloc _) ?_;intro w0 hrg0 hg0 hs0)
    | go_in)
   ·have hfd':bst k=none:=by rw[hfd,if_neg];cases fd <;> simp_all
    have hw1s:=hB1.size;have hrel:∃(k1 kn:Nat) (D:DataW H),Value.int .i64 ((k:Int)+1)=.int .i64 k1/\k1<=L+1/\(w1.alloc (.cells #[.slice pa pn pc,.int .i64 en] 266)).ownsMap Tryz.prog 3 (plainElem Tryz.prog 3) bn kn D/\kn<=k1 * Maps.size D0/\(∀m,fD D m=zEC (fD D0) bst k1 m)/\(∀m v,fD D m=some v->0<=v/\v<=2000000000000000000)/\Below bn W (w1.alloc (.cells #[.slice pa pn pc,.int .i64 en] 266))/\bn<(w1.alloc (.cells #[.slice pa pn pc,.int .i64 en] 266)).heap.size:=by
     refine⟨k+1,kn,Dn,by simp,by omega,(QU hown (hB1.block bn hs)).alloc _,by rw[Nat.add_mul,Nat.one_mul];omega,λm=>?_,hAb,((hB.trans (hB1.mono (by omega))).alloc (by omega) _),by rw[World.size_alloc];omega⟩
     rw[hA m];show _=(match bst k with | none=>_ | some be=>_)
     rw[hfd']
    refine⟨hrel,?_⟩;simp[QI];omega
   ·go_frame
    have hsz1:(w1.alloc (.cells #[.slice pa pn pc,.int .i64 en] 266)).heap.size=w1.heap.size+1:=World.size_alloc _ _;have hfd':bst k=some en:=by rw[hfd,if_pos];cases fd <;> first | rfl | (exfalso;simp_all;done)
    have hown1:(w1.alloc (.cells #[.slice pa pn pc,.int .i64 en] 266)).ownsMap Tryz.prog 3 (plainElem Tryz.prog 3) bn kn Dn:=(QU hown (hB1.block bn hs)).alloc _;have hw1s:=hB1.size;have hkk:kn+Maps.size D0<=(k+1) * Maps.size D0:=by rw[Nat.add_mul,Nat.one_mul];omega
    have hkk2:(k+1) * Maps.size D0<=65 * 1000:=Nat.mul_le_mul (by omega) hsz0
    refine inner171 w0 sa b bn w1.heap.size (w1.alloc (.cells #[.slice pa pn pc,.int .i64 en] 266)).heap.size n kn k en D0 Dn _ _ _ _ _ _ _ _ _ _ _ _ _ _ _ _ _ _ _ _ _ _ _ _ _ _ _ _ _ _ _ _ _ _ _ _ _ _ _ _ _ _ _ _ _ _ _ _ _ _ _ _ _ _ _ _ _ _ _ _ _ _ _ _ _ _ _ _ _ _ _ _ _ _ _ hrg0 ?_ ?_ ?_ ?_ ?_ ?_ ?_ ?_ ?_ _ ?_
    ·exact QU hown1 (hg0.block bn (by rw[hsz1];omega) (by simp))
    ·refine(World.cell?_of_block (a:=⟨w1.heap.size,1,none⟩) (hg0.block w1.heap.size (by rw[hsz1];omega) (by simp))).trans ?_
     unfold World.cell?;simp only[World.alloc_heap_new];rfl
    ·rw[hsz1];omega
    ·rw[hsz1];omega
    ·intro m v h;have:=hb64 m v h;omega
    ·intro m v h;have:=hAb m v h;omega
    ·omega
    ·omega
    ·unfold maxLen;omega
    ·intro v13 v14 v15 v16 v46 v47 v48 v49 v50 v51 v52 v53 v54 v55 v56 v57 v58 v59 v60 v61 v62 v63 v64 v65 v66 v67 v68 v69 v70 v71 v72 v73 v74 v75 v76 Dn1 cnt w' hrg' hout' hA' hK';have hB2:Below bn W w':=by
      refine(hB.trans (hB1.mono (by omega))).trans ?_
      refine((((Below.refl bn w1).alloc (by omega) (.cells #[.slice pa pn pc,.int .i64 en] 266))).grown hg0 (by rw[hsz1];omega) (λj hj=>by cases hj)).trans ?_
      exact⟨hK'.os,hK'.tape,hK'.output,hK'.size,λj hj=>hK'.block j (by omega) (by rw[hsz1];omega) (by omega)⟩
     have hs2:bn<w'.heap.size:=by have:=hK'.size;omega
     have hrel:∃(k1 kn:Nat) (D:DataW H),Value.int .i64 ((k:Int)+1)=.int .i64 k1/\k1<=L+1/\w'.ownsMap Tryz.prog 3 (plainElem Tryz.prog 3) bn kn D/\kn<=k1 * Maps.size D0/\(∀m,fD D m=zEC (fD D0) bst k1 m)/\(∀m v,fD D m=some v->0<=v/\v<=2000000000000000000)/\Below bn W w'/\bn<w'.heap.size:=by
      refine⟨k+1,kn+Maps.size D0,Dn1,by simp,by omega,hout',hkk,λm=>?_,λm v h=>?_,hB2,hs2⟩
      ·rw[hA' m,hA m];show _=(match bst k with | none=>_ | some be=>_)
       rw[hfd']
      ·rw[hA' m] at h;exact updP_bnd ⟨hen1,hen2⟩ (λv h=>by have:=hb64 _ v h;omega) (λv h=>hAb m v h) v h
     go_wp2;refine⟨hrel,?_⟩;simp[QI];omega
  ·go_wp2;obtain rfl:k=L+1:=by omega
   exact hQ _ _ _ _ _ _ _ _ _ _ _ _ _ _ _ _ _ _ _ _ _ _ _ _ _ _ _ _ _ _ _ _ _ _ _ _ _ _ _ _ _ _ _ _ _ _ _ _ _ _ _ _ _ kn Dn wr hown hkn hA hB hs
end Go.Am
namespace Go.Am
open Go.Proofs
open Go Go.RowKit Go.Maps
theorem zHk(V:World)(a:Option Addr)(c:Nat)(g:List Int)(hl:g.length<=100000)(hg:0<g.length->∃b o,a=some ⟨b,o,none⟩/\zAH V b o g) :
  Calls Tryz.prog 245 #[.func (.func 287) #[] #[.pointer (some ⟨V.heap.size,0,none⟩)]] (V.alloc (.cells #[.slice a g.length c] 25)) λe w'=>∃oa oc,e=.returned (.slice oa g.length oc) /\
   w'.ownsRow (V.heap.size+1+1) 3 1 (.slice oa g.length oc) g.length ((j5 g).map (Value.int .i64))/\Below (V.heap.size+1) (V.alloc (.cells #[.slice a g.length c] 25)) w':=by
 have eg:∀args w,(callFunc 287 args).run Tryz.prog w=.ok (.enter 287 args) w:=Go.Proofs.enters_of Tryz.func287 (by kernel_rfl) rfl
 have hs:(V.alloc (.cells #[.slice a g.length c] 25)).heap.size=V.heap.size+1:=World.size_alloc _ _;have hbox:∀W',Below (V.heap.size+1) (V.alloc (.cells #[.slice a g.length c] 25)) W'->W'.cell? ⟨V.heap.size,0,none⟩=some (.slice a g.length c):=by
  intro W' hB;refine(World.cell?_of_block (a:=⟨V.heap.size,0,none⟩) (hB.block V.heap.size (by omega))).trans ?_
  unfold World.cell?;simp only[World.alloc_heap_new];rfl
 have form:∀(w':World) (v:Value),w'.ownsRow (V.heap.size+1+1) 3 1 v g.length ((j5 g).map (Value.int .i64))->∃oa oc,v=.slice oa g.length oc:=by
  intro w' v h;rcases h.2 with ⟨rfl,e⟩ | ⟨g',cap,_,rfl,_⟩
  ·exact⟨none,0,by rw[e]⟩
  ·exact⟨_,_,rfl⟩
 have fin:∀(R:Ending->World->Prop),(∀e w',(∃v,e=.returned v/\w'.ownsRow (V.heap.size+1+1) 3 1 v g.length ((j5 g).map (Value.int .i64))/\Below (V.heap.size+1) (V.alloc (.cells #[.slice a g.length c] 25)) w')->R e w') ->
   Calls Tryz.prog 245 #[.func (.func 287) #[] #[.pointer (some ⟨V.heap.size,0,none⟩)]] (V.alloc (.cells #[.slice a g.length c] 25)) R:=by
  intro R hR;by_cases h0:0<g.length
  ·obtain⟨b,o,rfl,hi⟩:=hg h0;have hblt:b<V.heap.size:=by have:=hi 0 h0;exact World.block_lt_of_cell? _ _ this
   have:=zEW 287 #[.pointer (some ⟨V.heap.size,0,none⟩)] g hl (V.alloc (.cells #[.slice (some ⟨b,o,none⟩) g.length c] 25)) _ eg (values_seq ⟨V.heap.size,0,none⟩ b o c g (by omega)) (λW' hB=>by
    rw[hs] at hB;refine⟨hbox W' hB,λj hj=>?_⟩
    refine(World.cell?_of_block (a:=⟨b,o+j,none⟩) ((hB.block b (by omega)).trans (Below.heap_alloc _ _ _ hblt))).trans (hi j hj))
   rw[hs] at this;exact this.mono λe w' h=>hR e w' h
  ·have hz:g=[]:=List.length_eq_zero_iff.1 (by omega)
   subst hz;have:=zEW 287 #[.pointer (some ⟨V.heap.size,0,none⟩)] [] (by simp) (V.alloc (.cells #[.slice a ([]:List Int).length c] 25)) _ eg (zIn ⟨V.heap.size,0,none⟩ a c) (λW' hB=>by
    rw[hs] at hB;exact hbox W' hB)
   rw[hs] at this;exact this.mono λe w' h=>hR e w' h
 refine fin _ λe w' ⟨v,he,hv,hB⟩=>?_
 obtain⟨oa,oc,rfl⟩:=form w' v hv;exact⟨oa,oc,he,hv,hB⟩
end Go.Am
namespace Go.Am
open Go.Proofs
open Go Go.RowKit Go.Maps
def zEB(bst:List Int->Nat->Option Int):List (List Int)->Int->Option Int
 | [],m=>if m=0 then some 0 else none
 | g :: gs,m=>zEC (zEB bst gs) (bst (j5 g)) (g.length+1) m
def zIS:List (List Int)->Nat
 | []=>1
 | g :: gs=>(g.length+1) * zIS gs
set_option maxRecDepth 100000 in
set_option maxHeartbeats 4000000 in
theorem last171(wr:World)(sa:Option Addr)(b gb go gcap len:Nat)(u1 u2 u3 u4 u6 u7 u8 u9 u10 u11 u12 u13 u14 u15 u16 u17 u18 u22 u23 u24 u25 u26 u27 u28 u29 u30 u31 u32 u33 u34 u35 u36 u37 u38 u39 u40 u41 u42 u43 u44 u45 u46 u47 u48 u49 u50 u51 u52 u53 u54 u55 u56 u57 u58 u59 u60 u61 u62 u63 u64 u65 u66 u67 u68 u69 u70 u71 u72 u73 u74 u75 u76 u77 u78 u79 u80:Value)(R:Exit->Act->World->Prop)
  (hR:∀v22:Value,R (.exit 0) { tmps:=#[.pointer sa,u1,u2,u3,u4,.map (some b),u6,u7,u8,u9,u10,u11,u12,u13,u14,u15,u16,u17,u18,.slice (some ⟨gb,go,none⟩) len gcap,.int .i64 (len:Int),.int .i64 (len:Int),v22,u23,u24,u25,u26,u27,u28,u29,u30,u31,u32,u33,u34,u35,u36,u37,u38,u39,u40,u41,u42,u43,u44,u45,u46,u47,u48,u49,u50,u51,u52,u53,u54,u55,u56,u57,u58,u59,u60,u61,u62,u63,u64,u65,u66,u67,u68,u69,u70,u71,u72,u73,u74,u75,u76,u77,u78,u79,u80],defers:=[] } wr):k171G.wp Tryz.prog R { tmps:=#[.pointer sa,u1,u2,u3,u4,.map (some b),u6,u7,u8,u9,u10,u11,u12,u13,u14,u15,u16,u17,u18,.slice (some ⟨gb,go,none⟩) len gcap,.int .i64 (len:Int),.int .i64 (len:Int),u22,u23,u24,u25,u26,u27,u28,u29,u30,u31,u32,u33,u34,u35,u36,u37,u38,u39,u40,u41,u42,u43,u44,u45,u46,u47,u48,u49,u50,u51,u52,u53,u54,u55,u56,u57,u58,u59,u60,u61,u62,u63,u64,u65,u66,u67,u68,u69,u70,u71,u72,u73,u74,u75,u76,u77,u78,u79,u80],defers:=[] } wr:=by
 dsimp only[k171G,k171,q1,q2,qb,ql,Tryz.f171];go_wp2;exact hR _
set_option maxRecDepth 100000 in
set_option maxHeartbeats 4000000 in
theorem round171{H:Type}(wr:World)(sa:Option Addr)(b gb go gcap k len n:Nat)(ga:Option Addr)(gc:Nat)(g:List Int)(D:DataW H)(u1 u2 u3 u4 u6 u7 u8 u9 u10 u11 u12 u13 u14 u15 u16 u17 u18 u22 u23 u24 u25 u26 u27 u28 u29 u30 u31 u32 u33 u34 u35 u36 u37 u38 u39 u40 u41 u42 u43 u44 u45 u46 u47 u48 u49 u50 u51 u52 u53 u54 u55 u56 u57 u58 u59 u60 u61 u62 u63 u64 u65 u66 u67 u68 u69 u70 u71 u72 u73 u74 u75 u76 u77 u78 u79 u80:Value)(bst:List Int->Nat->Option Int)
  (hkl:k<len) (hlen:len<=64) (hg64:g.length<=64) (hc1:wr.cell? ⟨gb,go+k,none⟩=some (.slice ga g.length gc))
  (hsort:Calls Tryz.prog 245 #[.func (.func 287) #[] #[.pointer (some ⟨wr.heap.size,0,none⟩)]] (wr.alloc (.cells #[.slice ga g.length gc] 25)) λe w'=>∃oa oc,e=.returned (.slice oa g.length oc) /\
   w'.ownsRow (wr.heap.size+1+1) 3 1 (.slice oa g.length oc) g.length ((j5 g).map (Value.int .i64))/\Below (wr.heap.size+1) (wr.alloc (.cells #[.slice ga g.length gc] 25)) w')
  (hown:wr.ownsMap Tryz.prog 3 (plainElem Tryz.prog 3) b n D) (hbs:b<wr.heap.size) (hDb:∀m v,fD D m=some v->0<=m/\m<=50/\0<=v/\v<=1000000000000000000) (hsz:Maps.size D<=1000)
  (hbest:∀(V:World) (oa:Option Addr) (oc k:Nat),Below wr.heap.size wr V->V.ownsRow wr.heap.size 3 1 (.slice oa g.length oc) g.length ((j5 g).map (Value.int .i64))->k<=g.length ->
   Calls Tryz.prog 162 #[.pointer sa,.slice oa g.length oc,.slice none 0 0,.int .i64 k] V λe w'=>∃(pa:Option Addr) (pn pc:Nat) (en:Int) (fd:Bool),e=.returned (.tuple #[.agg #[.slice pa pn pc,.int .i64 en],.bool fd])/\Below V.heap.size V w'/\bst (j5 g) k=(if fd=true then some en else none)/\0<=en/\en<=1000000000000000000)
  (R:Exit->Act->World->Prop) (hR:∀(v7 v8 v9 v10 v11 v12 v13 v14 v15 v16 v22 v23 v24 v25 v26 v27 v28 v29 v30 v31 v32 v33 v34 v35 v36 v37 v38 v39 v40 v41 v42 v43 v44 v45 v46 v47 v48 v49 v50 v51 v52 v53 v54 v55 v56 v57 v58 v59 v60 v61 v62 v63 v64 v65 v66 v67 v68 v69 v70 v71 v72 v73 v74 v75 v76 v77 v78 v79:Value) (b1 kn:Nat) (Dn:DataW H) (w':World),wr.heap.size<b1->w'.ownsMap Tryz.prog 3 (plainElem Tryz.prog 3) b1 kn Dn->kn<=(g.length+1) * Maps.size D->(∀m,fD Dn m=zEC (fD D) (bst (j5 g)) (g.length+1) m) ->
   Below wr.heap.size wr w'->b1<w'.heap.size->R .normal { tmps:=#[.pointer sa,u1,u2,u3,u4,.map (some b1),u6,v7,v8,v9,v10,v11,v12,v13,v14,v15,v16,u17,u18,.slice (some ⟨gb,go,none⟩) len gcap,.int .i64 (len:Int),.int .i64 ((k:Int)+1),v22,v23,v24,v25,v26,v27,v28,v29,v30,v31,v32,v33,v34,v35,v36,v37,v38,v39,v40,v41,v42,v43,v44,v45,v46,v47,v48,v49,v50,v51,v52,v53,v54,v55,v56,v57,v58,v59,v60,v61,v62,v63,v64,v65,v66,v67,v68,v69,v70,v71,v72,v73,v74,v75,v76,v77,v78,v79,u80],defers:=[] } w'):k171G.wp Tryz.prog R { tmps:=#[.pointer sa,u1,u2,u3,u4,.map (some b),u6,u7,u8,u9,u10,u11,u12,u13,u14,u15,u16,u17,u18,.slice (some ⟨gb,go,none⟩) len gcap,.int .i64 (len:Int),.int .i64 (k:Int),u22,u23,u24,u25,u26,u27,u28,u29,u30,u31,u32,u33,u34,u35,u36,u37,u38,u39,u40,u41,u42,u43,u44,u45,u46,u47,u48,u49,u50,u51,u52,u53,u54,u55,u56,u57,u58,u59,u60,u61,u62,u63,u64,u65,u66,u67,u68,u69,u70,u71,u72,u73,u74,u75,u76,u77,u78,u79,u80],defers:=[] } wr:=by
 have hmm:=@run_makeMap Tryz.prog;have HR:Hid _:=hR;have HB:Hid _:=hbest;have HD:Hid _:=hDb;clear hR hbest hDb;dsimp only[k171G,k171,q1,q2,qb,ql,Tryz.f171]
 go_wp2_with (first
  | (go_at_call 245;refine hsort.mono ?_;rintro e w1 ⟨oa,oc,rfl,hv,hB1⟩)
  | go_in)
 have hw1s:wr.heap.size+1<=w1.heap.size:=by have:=hB1.size;rw[World.size_alloc] at this;omega
 have hBw1:Below wr.heap.size wr w1:=((Below.refl wr.heap.size wr).alloc (Nat.le_refl _) _).trans (hB1.mono (by omega))
 refine mid171 (w1.alloc (.map #[] 0)) sa (.slice oa g.length oc) b w1.heap.size n g.length D _ _ _ _ _ _ _ _ _ _ _ _ _ _ _ _ _ _ _ _ _ _ _ _ _ _ _ _ _ _ _ _ _ _ _ _ _ _ _ _ _ _ _ _ _ _ _ _ _ _ _ _ _ _ _ _ _ _ _ _ _ _ _ _ _ _ _ _ _ _ _ _ _ _ _ (bst (j5 g)) ?_ ?_ ?_ ?_ ?_ ?_ ?_ _ ?_
 ·exact(QU hown ((hB1.block b (by omega)).trans (Below.heap_alloc _ _ _ hbs))).alloc _
 ·exact World.ownsMap_made _ _ _ _
 ·omega
 ·exact HD.out
 ·exact hg64
 ·intro V k1 hBV hk1;have hBV':Below wr.heap.size wr V:=(hBw1.trans ((Below.refl wr.heap.size w1).alloc (by omega) _)).trans (hBV.mono (by omega))
  refine HB.out V oa oc k1 hBV' ⟨hv.1,hv.2.imp id ?_⟩ hk1;rintro⟨g',cap,cur,e1,e2,e3,e4⟩;have hglt:g'<w1.heap.size:=(Array.getElem?_eq_some_iff.1 e3).1;exact⟨g',cap,cur,e1,by omega,((hBV.block g' hglt).trans (Below.heap_alloc _ _ _ hglt)).trans e3,e4⟩
 ·exact hsz
 ·intro v10 v11 v12 v13 v14 v15 v16 v32 v33 v34 v35 v36 v37 v38 v39 v40 v41 v42 v43 v44 v45 v46 v47 v48 v49 v50 v51 v52 v53 v54 v55 v56 v57 v58 v59 v60 v61 v62 v63 v64 v65 v66 v67 v68 v69 v70 v71 v72 v73 v74 v75 v76 v77 kn Dn w' hown' hkn' hA' hB' hs';have hBw':Below wr.heap.size wr w':=(hBw1.trans ((Below.refl wr.heap.size w1).alloc (by omega) _)).trans (hB'.mono (by omega))
  have hlt1:wr.heap.size<w1.heap.size:=by omega
  have fin:∀(v7 v8 v9 v10 v11 v12 v13 v14 v15 v16 v22 v23 v24 v25 v26 v27 v28 v29 v30 v31 v32 v33 v34 v35 v36 v37 v38 v39 v40 v41 v42 v43 v44 v45 v46 v47 v48 v49 v50 v51 v52 v53 v54 v55 v56 v57 v58 v59 v60 v61 v62 v63 v64 v65 v66 v67 v68 v69 v70 v71 v72 v73 v74 v75 v76 v77 v78 v79:Value),R .normal { tmps:=#[.pointer sa,u1,u2,u3,u4,.map (some w1.heap.size),u6,v7,v8,v9,v10,v11,v12,v13,v14,v15,v16,u17,u18,.slice (some ⟨gb,go,none⟩) len gcap,.int .i64 (len:Int),.int .i64 ((k:Int)+1),v22,v23,v24,v25,v26,v27,v28,v29,v30,v31,v32,v33,v34,v35,v36,v37,v38,v39,v40,v41,v42,v43,v44,v45,v46,v47,v48,v49,v50,v51,v52,v53,v54,v55,v56,v57,v58,v59,v60,v61,v62,v63,v64,v65,v66,v67,v68,v69,v70,v71,v72,v73,v74,v75,v76,v77,v78,v79,u80],defers:=[] } w':=λv7 v8 v9 v10 v11 v12 v13 v14 v15 v16 v22 v23 v24 v25 v26 v27 v28 v29 v30 v31 v32 v33 v34 v35 v36 v37 v38 v39 v40 v41 v42 v43 v44 v45 v46 v47 v48 v49 v50 v51 v52 v53 v54 v55 v56 v57 v58 v59 v60 v61 v62 v63 v64 v65 v66 v67 v68 v69 v70 v71 v72 v73 v74 v75 v76 v77 v78 v79=>HR.out v7 v8 v9 v10 v11 v12 v13 v14 v15 v16 v22 v23 v24 v25 v26 v27 v28 v29 v30 v31 v32 v33 v34 v35 v36 v37 v38 v39 v40 v41 v42 v43 v44 v45 v46 v47 v48 v49 v50 v51 v52 v53 v54 v55 v56 v57 v58 v59 v60 v61 v62 v63 v64 v65 v66 v67 v68 v69 v70 v71 v72 v73 v74 v75 v76 v77 v78 v79 w1.heap.size kn Dn w' hlt1 hown' hkn' hA' hBw' hs'
  have HF:Hid _:=fin;clear fin HR HB HD hA' hown' hv hsort;go_wp2;exact HF.out _ _ _ _ _ _ _ _ _ _ _ _ _ _ _ _ _ _ _ _ _ _ _ _ _ _ _ _ _ _ _ _ _ _ _ _ _ _ _ _ _ _ _ _ _ _ _ _ _ _ _ _ _ _ _ _ _ _ _ _ _ _ _ _ _ _ _ _
theorem outer171{H:Type}(W:World)(sa:Option Addr)(b0 gb go gcap B n0:Nat)(gs:List (List Int))(D0:DataW H)(u1 u2 u3 u4 u6 u7 u8 u9 u10 u11 u12 u13 u14 u15 u16 u17 u18 u22 u23 u24 u25 u26 u27 u28 u29 u30 u31 u32 u33 u34 u35 u36 u37 u38 u39 u40 u41 u42 u43 u44 u45 u46 u47 u48 u49 u50 u51 u52 u53 u54 u55 u56 u57 u58 u59 u60 u61 u62 u63 u64 u65 u66 u67 u68 u69 u70 u71 u72 u73 u74 u75 u76 u77 u78 u79 u80:Value)(bst:List Int->Nat->Option Int)(ga:Nat->Option Addr)(gc:Nat->Nat)
  (hb:W.ownsMap Tryz.prog 3 (plainElem Tryz.prog 3) b0 n0 D0) (hB:B<=W.heap.size)
  (hcell:∀j (h:j<gs.length),W.cell? ⟨gb,go+j,none⟩=some (.slice (ga j) gs[j].length (gc j))) (hgb:gb<B) (hgl:gs.length<=64) (hlen64:∀j (h:j<gs.length),gs[j].length<=64)
  (hD0:∀m,fD D0 m=zEB bst [] m) (hn0:n0<=1) (hb0:B<=b0) (hprod:∀k,zIS (gs.take k).reverse<=1000) (hF:∀k m v,zEB bst (gs.take k).reverse m=some v->0<=m/\m<=50/\0<=v/\v<=1000000000000000000)
  (hints:∀j (h:j<gs.length),0<gs[j].length->∃b o,ga j=some ⟨b,o,none⟩/\b<B/\zAH W b o gs[j])
  (hbest:∀(V:World) (j:Nat) (h:j<gs.length) (oa:Option Addr) (oc k:Nat),Below B W V->V.ownsRow B 3 1 (.slice oa gs[j].length oc) gs[j].length ((j5 gs[j]).map (Value.int .i64))->k<=gs[j].length ->
   Calls Tryz.prog 162 #[.pointer sa,.slice oa gs[j].length oc,.slice none 0 0,.int .i64 k] V λe w'=>∃(pa:Option Addr) (pn pc:Nat) (en:Int) (fd:Bool),e=.returned (.tuple #[.agg #[.slice pa pn pc,.int .i64 en],.bool fd])/\Below V.heap.size V w'/\bst (j5 gs[j]) k=(if fd=true then some en else none)/\0<=en/\en<=1000000000000000000)
  (Q:Exit->Act->World->Prop) (hQ:∀(v21 v7 v8 v9 v10 v11 v12 v13 v14 v15 v16 v22 v23 v24 v25 v26 v27 v28 v29 v30 v31 v32 v33 v34 v35 v36 v37 v38 v39 v40 v41 v42 v43 v44 v45 v46 v47 v48 v49 v50 v51 v52 v53 v54 v55 v56 v57 v58 v59 v60 v61 v62 v63 v64 v65 v66 v67 v68 v69 v70 v71 v72 v73 v74 v75 v76 v77 v78 v79:Value) (b n:Nat) (D:DataW H) (w':World),B<=b->w'.ownsMap Tryz.prog 3 (plainElem Tryz.prog 3) b n D->(∀m,fD D m=zEB bst gs.reverse m)->Below B W w'->Q (.exit 0) { tmps:=#[.pointer sa,u1,u2,u3,u4,.map (some b),u6,v7,v8,v9,v10,v11,v12,v13,v14,v15,v16,u17,u18,.slice (some ⟨gb,go,none⟩) gs.length gcap,.int .i64 (gs.length:Int),v21,v22,v23,v24,v25,v26,v27,v28,v29,v30,v31,v32,v33,v34,v35,v36,v37,v38,v39,v40,v41,v42,v43,v44,v45,v46,v47,v48,v49,v50,v51,v52,v53,v54,v55,v56,v57,v58,v59,v60,v61,v62,v63,v64,v65,v66,v67,v68,v69,v70,v71,v72,v73,v74,v75,v76,v77,v78,v79,u80],defers:=[] } w') :
  (Code.loop k171G).wp Tryz.prog Q { tmps:=#[.pointer sa,u1,u2,u3,u4,.map (some b0),u6,u7,u8,u9,u10,u11,u12,u13,u14,u15,u16,u17,u18,.slice (some ⟨gb,go,none⟩) gs.length gcap,.int .i64 (gs.length:Int),.int .i64 0,u22,u23,u24,u25,u26,u27,u28,u29,u30,u31,u32,u33,u34,u35,u36,u37,u38,u39,u40,u41,u42,u43,u44,u45,u46,u47,u48,u49,u50,u51,u52,u53,u54,u55,u56,u57,u58,u59,u60,u61,u62,u63,u64,u65,u66,u67,u68,u69,u70,u71,u72,u73,u74,u75,u76,u77,u78,u79,u80],defers:=[] } W:=by
 have main:∀(m k b n:Nat) (D:DataW H) (kv:Int) (u7 u8 u9 u10 u11 u12 u13 u14 u15 u16 u22 u23 u24 u25 u26 u27 u28 u29 u30 u31 u32 u33 u34 u35 u36 u37 u38 u39 u40 u41 u42 u43 u44 u45 u46 u47 u48 u49 u50 u51 u52 u53 u54 u55 u56 u57 u58 u59 u60 u61 u62 u63 u64 u65 u66 u67 u68 u69 u70 u71 u72 u73 u74 u75 u76 u77 u78 u79:Value) (w:World),kv=k->gs.length - k<m->B<=b->k<=gs.length->w.ownsMap Tryz.prog 3 (plainElem Tryz.prog 3) b n D->n<=zIS (gs.take k).reverse->(∀m,fD D m=zEB bst (gs.take k).reverse m)->Below B W w->b<w.heap.size ->
   Code.rounds Tryz.prog k171G Q m { tmps:=#[.pointer sa,u1,u2,u3,u4,.map (some b),u6,u7,u8,u9,u10,u11,u12,u13,u14,u15,u16,u17,u18,.slice (some ⟨gb,go,none⟩) gs.length gcap,.int .i64 (gs.length:Int),.int .i64 kv,u22,u23,u24,u25,u26,u27,u28,u29,u30,u31,u32,u33,u34,u35,u36,u37,u38,u39,u40,u41,u42,u43,u44,u45,u46,u47,u48,u49,u50,u51,u52,u53,u54,u55,u56,u57,u58,u59,u60,u61,u62,u63,u64,u65,u66,u67,u68,u69,u70,u71,u72,u73,u74,u75,u76,u77,u78,u79,u80],defers:=[] } w:=by
  intro m;induction m with
  | zero=>intro k b n D kv u7 u8 u9 u10 u11 u12 u13 u14 u15 u16 u22 u23 u24 u25 u26 u27 u28 u29 u30 u31 u32 u33 u34 u35 u36 u37 u38 u39 u40 u41 u42 u43 u44 u45 u46 u47 u48 u49 u50 u51 u52 u53 u54 u55 u56 u57 u58 u59 u60 u61 u62 u63 u64 u65 u66 u67 u68 u69 u70 u71 u72 u73 u74 u75 u76 u77 u78 u79 w h1 h2;omega
  | succ m ih =>
   intro k b n D kv u7 u8 u9 u10 u11 u12 u13 u14 u15 u16 u22 u23 u24 u25 u26 u27 u28 u29 u30 u31 u32 u33 u34 u35 u36 u37 u38 u39 u40 u41 u42 u43 u44 u45 u46 u47 u48 u49 u50 u51 u52 u53 u54 u55 u56 u57 u58 u59 u60 u61 u62 u63 u64 u65 u66 u67 u68 u69 u70 u71 u72 u73 u74 u75 u76 u77 u78 u79 w hkv hm hbB hk hown hnp hA hBe hbs;subst hkv;rw[rounds_succ];by_cases hkl:k<gs.length
   ·have hws:B<=w.heap.size:=by omega
    refine round171 w sa b gb go gcap k gs.length n (ga k) (gc k) gs[k] D u1 u2 u3 u4 u6 u7 u8 u9 u10 u11 u12 u13 u14 u15 u16 u17 u18 u22 u23 u24 u25 u26 u27 u28 u29 u30 u31 u32 u33 u34 u35 u36 u37 u38 u39 u40 u41 u42 u43 u44 u45 u46 u47 u48 u49 u50 u51 u52 u53 u54 u55 u56 u57 u58 u59 u60 u61 u62 u63 u64 u65 u66 u67 u68 u69 u70 u71 u72 u73 u74 u75 u76 u77 u78 u79 u80 bst hkl hgl (hlen64 k hkl) ((World.cell?_of_block (a:=⟨gb,go+k,none⟩) (hBe.block gb hgb)).trans (hcell k hkl)) ?_ hown hbs ?_ ?_ ?_ _ ?_
    ·exact zHk w (ga k) (gc k) gs[k] (by have:=hlen64 k hkl;omega) (λh0=>by
      obtain⟨b1,o1,e1,e2,e3⟩:=hints k hkl h0;exact⟨b1,o1,e1,λj hj=>(World.cell?_of_block (a:=⟨b1,o1+j,none⟩) (hBe.block b1 e2)).trans (e3 j hj)⟩)
    ·intro m v h;rw[hA m] at h;exact hF k m v h
    ·have:=hown.size_le;have:=hprod k;omega
    ·intro V oa oc k1 hBV hv hk1;refine hbest V k hkl oa oc k1 (hBe.trans (hBV.mono hws)) ⟨hv.1,hv.2.imp id ?_⟩ hk1;rintro⟨g',cap,cur,e1,e2,e3,e4⟩;exact⟨g',cap,cur,e1,by omega,e3,e4⟩
    ·intro v7 v8 v9 v10 v11 v12 v13 v14 v15 v16 v22 v23 v24 v25 v26 v27 v28 v29 v30 v31 v32 v33 v34 v35 v36 v37 v38 v39 v40 v41 v42 v43 v44 v45 v46 v47 v48 v49 v50 v51 v52 v53 v54 v55 v56 v57 v58 v59 v60 v61 v62 v63 v64 v65 v66 v67 v68 v69 v70 v71 v72 v73 v74 v75 v76 v77 v78 v79 b1 kn Dn w' hb1 hown' hkn' hA' hB' hs';have et:(gs.take (k+1)).reverse=gs[k] :: (gs.take k).reverse:=by rw[List.take_succ,List.getElem?_eq_getElem hkl];simp
     refine ih (k+1) b1 kn Dn _ v7 v8 v9 v10 v11 v12 v13 v14 v15 v16 v22 v23 v24 v25 v26 v27 v28 v29 v30 v31 v32 v33 v34 v35 v36 v37 v38 v39 v40 v41 v42 v43 v44 v45 v46 v47 v48 v49 v50 v51 v52 v53 v54 v55 v56 v57 v58 v59 v60 v61 v62 v63 v64 v65 v66 v67 v68 v69 v70 v71 v72 v73 v74 v75 v76 v77 v78 v79 w' (by omega) (by omega) (by omega) (by omega) hown' ?_ (λm=>?_) (hBe.trans (hB'.mono hws)) hs'
     ·rw[et];exact Nat.le_trans hkn' (Nat.mul_le_mul (Nat.le_refl _) (Nat.le_trans hown.size_le hnp))
     ·rw[et,hA' m];show zEC (fD D) _ _ _=zEC (zEB bst (gs.take k).reverse) _ _ _;rw[show fD D=zEB bst (gs.take k).reverse from funext hA]
   ·have hke:k=gs.length:=by omega
    subst hke;rw[List.take_length] at hA;exact last171 w sa b gb go gcap gs.length u1 u2 u3 u4 u6 u7 u8 u9 u10 u11 u12 u13 u14 u15 u16 u17 u18 u22 u23 u24 u25 u26 u27 u28 u29 u30 u31 u32 u33 u34 u35 u36 u37 u38 u39 u40 u41 u42 u43 u44 u45 u46 u47 u48 u49 u50 u51 u52 u53 u54 u55 u56 u57 u58 u59 u60 u61 u62 u63 u64 u65 u66 u67 u68 u69 u70 u71 u72 u73 u74 u75 u76 u77 u78 u79 u80 _ (λv22=>hQ _ _ _ _ _ _ _ _ _ _ _ _ _ _ _ _ _ _ _ _ _ _ _ _ _ _ _ _ _ _ _ _ _ _ _ _ _ _ _ _ _ _ _ _ _ _ _ _ _ _ _ _ _ _ _ _ _ _ _ _ _ _ _ _ _ _ _ _ _ b n D w hbB hown hA hBe)
 exact wp_loop_rounds (gs.length+1) (main (gs.length+1) 0 b0 n0 D0 0 u7 u8 u9 u10 u11 u12 u13 u14 u15 u16 u22 u23 u24 u25 u26 u27 u28 u29 u30 u31 u32 u33 u34 u35 u36 u37 u38 u39 u40 u41 u42 u43 u44 u45 u46 u47 u48 u49 u50 u51 u52 u53 u54 u55 u56 u57 u58 u59 u60 u61 u62 u63 u64 u65 u66 u67 u68 u69 u70 u71 u72 u73 u74 u75 u76 u77 u78 u79 W rfl (by omega) hb0 (Nat.zero_le _) hb hn0 hD0 (Below.refl _ _) hb.lt)
end Go.Am
namespace Go.Am
open Go.Proofs
open Go
variable[OO]
def S159_0a(v0:List DV)(v1:Int):St :=
 zx 26 [(11,(.d (.agg 3 v0))),(12,(.d (eI v1)))] []
noncomputable def zBU(v0:List DV)(v1:Int):Option CR:=goQ 159 0 (S159_0a v0 v1)
def S159_1a(v0:List DV)(v1:Int)(v2:List DV)(v3:Int):St :=
 zx 26 [(11,(.d (.agg 3 v0))),(12,(.d (eI v1))),(15,(.d (.agg 2 v2))),(16,(.d (eI v3)))] []
noncomputable def zFd(v0:List DV)(v1:Int)(v2:List DV)(v3:Int):Option CR:=goQ 159 1 (S159_1a v0 v1 v2 v3)
theorem zFe(v0:List DV)(v1:Int):zBU v0 v1 =
 ifO (decide (v1<(8:Int)))
 (ifO (decide ((0:Int)<=v1))
 (ifO (jQ 3 (Int.toNat v1) (.agg 3 v0))
 (ifO (zH EE 6 30 (nth v0 (Int.toNat v1)))
 ((zFd v0 v1 (flds (nth v0 (Int.toNat v1))) (0:Int)))
 (none))
 (none))
 (none))
 (some (.val (eI 0))) :=
 (zk 159 0 _).trans (by kernel_rfl)
theorem zFc(v0:List DV)(v1:Int)(v2:List DV)(v3:Int):zFd v0 v1 v2 v3 =
 ifO (decide (v3<(51:Int)))
 (ifO (decide ((0:Int)<=v3))
 (ifO (jQ 2 (Int.toNat v3) (.agg 2 v2))
 (ifO (zH EE 6 3 (nth v2 (Int.toNat v3)))
 (zI (zB 225 [(eI (zC (nth v2 (Int.toNat v3)))),(eI 0),(eI 40000)])
 (λr0=>ifO (zH EE 6 46 r0)
 (ifO (bne (zC r0) 0)
 (some (.val (eI (zC r0))))
 ((zFd v0 v1 v2 (IntKind.wrap .i64 (v3+(1:Int))))))
 (none))
 (λ_ _=>none))
 (none))
 (none))
 (none))
 ((zBU v0 (IntKind.wrap .i64 (v1+(1:Int))))) :=
 (zk 159 1 _).trans (by kernel_rfl)
theorem C159(x0:DV):zB 159 [x0] =
 ifO (zS (zH EE 6) [45] [x0])
 (ifO (Option.isSome (Y0 EE 45 (.agg 3 (flds x0)) (.agg 3 (List.replicate (α:=DV) 8 (.agg 2 (List.replicate (α:=DV) 51 (eI 0)))))))
 (ifO (ifO.match_1 (λy814=>Bool) false (λy767=>(!(Option.getD (Y0 EE 45 (.agg 3 (flds x0)) (.agg 3 (List.replicate (α:=DV) 8 (.agg 2 (List.replicate (α:=DV) 51 (eI 0)))))) false))) (λy894=>(Option.getD (Y0 EE 45 (.agg 3 (flds x0)) (.agg 3 (List.replicate (α:=DV) 8 (.agg 2 (List.replicate (α:=DV) 51 (eI 0)))))) false)))
 (some (.val (eI 0)))
 ((zBU (flds x0) (0:Int))))
 (none))
 (none) :=
 (zM (f:=159) (by kernel_rfl) (by kernel_rfl) (by kernel_rfl) [x0]).trans (by kernel_rfl)
end Go.Am
namespace Go.Am
open Go.Proofs
open Go
class KnW[OO]:Prop where
 wakes:∀(w:Wk) (ps:List Pt) (sec:Int) (st:Pt),w.w.length=w.d.length->w.d.length<=32->ps.length<=64->(∀p∈ps,YG p)->zA8 st ->
  zB 200 [eWk w,.sl 2 (ps.map ePt),eWd sec st]=some (.val (.sl 1 ((wakesP w ps sec st).map λr=>.sl 1 (r.map eI))))
variable[OO]
theorem cn25(x:List DV):cnE EE 25 (.sl 1 x)=.sl 1 x:=by kernel_rfl
theorem zIb(l:List (List Int)):(l.map λr=>DV.sl 1 (r.map eI)).map (cnE EE 25)=l.map λr=>.sl 1 (r.map eI):=by rw[List.map_map];exact List.map_congr_left λr _=>cn25 _
theorem wakeE_ok{w:Wk}(h:wakeE w=0):zCm w/\jq w.rule=true:=by
 unfold wakeE at h;split at h
 ·rename_i hh;obtain⟨h1,h2,h3,h4⟩:=wakeH_facts hh;split at h
  ·rename_i hd;have key:∀(l:List Int) (prev:Option Int),Ji 256 false prev l=0->∀d∈l,0<=d/\d<=256:=by
    intro l;induction l with
    | nil=>intro _ _ d hd;simp at hd
    | cons x r ih =>
     intro prev hl d hd;unfold Ji at hl;split at hl
     ·rename_i h0;rcases List.mem_cons.1 hd with rfl | hd
      ·unfold JE at h0;exact jF.1 (jH h0).1
      ·exact ih _ hl d hd
     ·rename_i h0;exact absurd hl h0
   exact⟨⟨key _ _ hd,h4,by omega⟩,h1⟩
  ·rename_i hd;exact absurd h hd
 ·rename_i hh;exact absurd h hh
theorem c153[KnW](w:Wk)(ps:List Pt)(sec:Int)(st:Pt)(hw:zCm w)(hk:jq w.rule=true)(hl:ps.length<=64)(hp:∀p∈ps,YG p)(hs:zA8 st) :
  zB 153 [eWk w,.sl 2 (ps.map ePt),eWd sec st]=some (.val (.sl 1 ((je w ps sec st).map eI))):=by
 have hwk:=KnW.wakes w ps sec st hw.2.1 hw.2.2 hl hp hs;have hb:=wakesP_bound hw ps sec st;have h236:=c236 237 [] [.dp (.fn (if w.rule=rG then 262 else if w.rule=rS then 264 else 231) [] [])] (λl=>YM (YR w.rule l)) (wakesP w ps sec st) (by simp[wakesP];omega)
  λx hx=>(show zB 237 (zu EE 237 [.sl 1 (x.map eI),.dp (.fn (if w.rule=rG then 262 else if w.rule=rS then 264 else 231) [] [])])=zB 237 [.sl 1 (x.map eI),.dp (.fn (if w.rule=rG then 262 else if w.rule=rS then 264 else 231) [] [])] from congrArg (zB 237) (by kernel_rfl)).trans
   (c237 w.rule hk _ rfl x (by rw[(hb x hx).1];omega) (hb x hx).2)
 rw[C153];simp only[zL,zN,h59,h81,h251,Bool.and_self,zF,zV,zY,zb,zq,zl,zK,zQ,C198,zJ,h314,keys_mp,vals_mp];rw[find_rule w.rule hk];simp only[Option.isSome_some,Option.getD_some,zF,h312,hwk,zJ,h95,zQ,zIb,zV,zY,Yx,Qb,Qa,h236,h25];rfl
def Yd(cut:Int):Option Int->List Int->Int
 | _,[]=>zZ cut 1 51
 | prev,p :: r=>if Jq prev p=0 then Yd cut (some p) r else Jq prev p
theorem zDN(cut:Int):∀(prev:Option Int) (l:List Int),Yd cut prev l=if Jz prev l=0 then zZ cut 1 51 else Jz prev l
 | _,[]=>rfl
 | prev,p :: r=>by
  unfold Yd Jz;by_cases h:Jq prev p=0
  ·simp only[h,if_true];exact zDN cut (some p) r
  ·simp only[h,if_false]
theorem l114(l:List Int)(cut:Int)(hl:l.length<=1000):∀i,i<=l.length->QD (l.map eI) l.length i cut=some (.val (eI (Yd cut (if i=0 then none else some (l.getD (i - 1) 0)) (l.drop i)))):=by
 apply down
 ·rw[zFw];simp[Yd]
 ·intro i hi ih;have e1:(i:Int)<l.length:=by omega
  have hgi:l.getD i 0=l[i]:=by rw[List.getD_eq_getElem?_getD,List.getElem?_eq_getElem hi];rfl
  rw[if_neg (by omega:¬i+1=0),Nat.add_sub_cancel,hgi] at ih
  have ih2:QD (l.map eI) l.length (IntKind.i64.wrap ((i:Int)+1)) cut=some (.val (eI (Yd cut (some l[i]) (l.drop (i+1))))):=by rw[wr ((i:Int)+1) (by omega)];exact_mod_cast ih
  rw[zFw,zi l i hi];have hn:=zP eI l i hi;have e7:(0:Int)<=(i:Int):=by omega
  simp only[zX,zBH,jE];simp only[List.length_map,e1,e7,if_true,and_self,Int.toNat_natCast,hn,h3,ih2,zF,zK,c149,zJ,h46];by_cases hz:i=0
  ·subst hz;have e2:(if bne l[0] 0=true then (6:Int) else 0)=if l[0]=0 then 0 else 6:=by by_cases h:l[0]=0 <;> simp[h]
   simp only[Int.natCast_zero,gt_iff_lt,Int.lt_irrefl,if_false,if_true,c169,zJ,h46,zF,zK,c148_3,e2,Bool.false_eq_true];rw[Yd];show _=some (CR.val (eI (if zO [zZ l[0] 0 100000,0,if l[0]=0 then 0 else 6]=0 then Yd cut (some l[0]) (l.drop (0+1)) else zO [zZ l[0] 0 100000,0,if l[0]=0 then 0 else 6])))
   by_cases hX:zO [zZ l[0] 0 100000,0,if l[0]=0 then 0 else 6]=0
   ·refine(if_pos hX).trans ?_;rw[if_pos hX]
   ·refine(if_neg hX).trans ?_;rw[if_neg hX]
  ·obtain⟨k,rfl⟩:∃k,i=k+1:=⟨i - 1,by omega⟩
   have hk:k<l.length:=by omega
   have hgk:l.getD k 0=l[k]:=by rw[List.getD_eq_getElem?_getD,List.getElem?_eq_getElem hk];rfl
   have hnk:=zP eI l k hk;have e3:IntKind.i64.wrap (((k+1:Nat):Int) - 1)=k:=by rw[wr _ (by omega)];omega
   have e4:(if (k:Int)>0 then (k:Int) else 0)=k:=by split <;> omega
   have e5:((k+1:Nat):Int)>0:=by omega
   have e6:¬((k+1:Nat):Int)=0:=by omega
   have e8:(0:Int)<=(k:Int)/\(k:Int)<l.length:=by omega
   simp only[e3,e4,e5,e6,e8,if_true,if_false,and_self,Int.toNat_natCast,hnk,h3,zF,zK,c169,zJ,h46,c148_3,Bool.false_eq_true,decide_eq_true_eq];rw[Yd];simp only[Nat.add_sub_cancel,hgk,Nat.add_eq_zero_iff,Nat.one_ne_zero,and_false,if_false,Jq];by_cases hX:zO [zZ l[k+1] 0 100000,if l[k+1]<l[k] then 11 else 0,0]=0
   ·refine(if_pos hX).trans ?_;rw[if_pos hX]
   ·refine(if_neg hX).trans ?_;rw[if_neg hX]
theorem c114(c:Cu):zB 114 [eCu c]=some (.val (eI (YJ c))):=by
 rw[C114];simp only[zX];simp only[zL,zN,h60,Bool.and_self,zF,zV,zY,zb,zQ,zK,List.length_map];unfold YJ;by_cases h1:(c.p.length:Int)<2
 ·simp[h1]
 ·by_cases h2:(c.p.length:Int)>51
  ·simp[h1,h2]
  ·rw[if_neg h1,if_neg h2,if_neg h1,if_neg h2,<-zDN];have:=l114 c.p c.cut (by omega) 0 (Nat.zero_le _)
   simpa using this
theorem l110(l:List Int)(cut:Int)(hl:l.length<=1000):∀i,i<=l.length->QE i (l.map eI) cut=some (.val (eI (Yd cut (if i=0 then none else some (l.getD (i - 1) 0)) (l.drop i)))):=by
 apply down
 ·rw[zFx];simp[Yd]
 ·intro i hi ih;have e1:(i:Int)<l.length:=by omega
  have hgi:l.getD i 0=l[i]:=by rw[List.getD_eq_getElem?_getD,List.getElem?_eq_getElem hi];rfl
  rw[if_neg (by omega:¬i+1=0),Nat.add_sub_cancel,hgi] at ih
  have ih2:QE (IntKind.i64.wrap ((i:Int)+1)) (l.map eI) cut=some (.val (eI (Yd cut (some l[i]) (l.drop (i+1))))):=by rw[wr ((i:Int)+1) (by omega)];exact_mod_cast ih
  rw[zFx,zi l i hi];have hn:=zP eI l i hi;have e7:(0:Int)<=(i:Int):=by omega
  simp only[zX,zBH,jE];simp only[List.length_map,e1,e7,if_true,and_self,Int.toNat_natCast,hn,h3,ih2,zF,c37,zJ];by_cases hz:i=0
  ·subst hz;simp only[Int.natCast_zero,gt_iff_lt,Int.lt_irrefl,if_false,if_true];rw[Yd];by_cases hX:zZ l[0] 0 100000=0
   ·refine(if_pos hX).trans ?_;by_cases h6:l[0]=0
    ·refine(if_pos h6).trans ?_;have e:Jq none l[0]=0:=by rw[h6] at hX;simp[Jq,zO,hX,h6]
     rw[if_pos e]
    ·refine(if_neg h6).trans ?_;have e:Jq none l[0]=6:=by simp[Jq,zO,hX,h6]
     rw[e];rfl
   ·refine(if_neg hX).trans ?_;have e:Jq none l[0]=zZ l[0] 0 100000:=by simp[Jq,zO,hX]
    rw[e,if_neg hX];rfl
  ·obtain⟨k,rfl⟩:∃k,i=k+1:=⟨i - 1,by omega⟩
   have hk:k<l.length:=by omega
   have hgk:l.getD k 0=l[k]:=by rw[List.getD_eq_getElem?_getD,List.getElem?_eq_getElem hk];rfl
   have hnk:=zP eI l k hk;have e3:IntKind.i64.wrap (((k+1:Nat):Int) - 1)=k:=by rw[wr _ (by omega)];omega
   have e5:((k+1:Nat):Int)>0:=by omega
   have e6:¬((k+1:Nat):Int)=0:=by omega
   have e8:(0:Int)<=(k:Int)/\(k:Int)<l.length:=by omega
   simp only[e3,e5,e6,e8,if_true,if_false,and_self,Int.toNat_natCast,hnk,h3,zF];rw[Yd];simp only[Nat.add_sub_cancel,hgk,Nat.add_eq_zero_iff,Nat.one_ne_zero,and_false,if_false];by_cases hX:zZ l[k+1] 0 100000=0
   ·refine(if_pos hX).trans ?_;by_cases h6:l[k+1]<l[k]
    ·refine(if_pos h6).trans ?_;have e:Jq (some l[k]) l[k+1]=11:=by simp[Jq,zO,hX,h6]
     rw[e];rfl
    ·refine(if_neg h6).trans ?_;rw[if_pos (by simp[Jq,zO,hX,h6])]
   ·refine(if_neg hX).trans ?_;have e:Jq (some l[k]) l[k+1]=zZ l[k+1] 0 100000:=by simp[Jq,zO,hX]
    rw[e,if_neg hX];rfl
theorem c110(c:Cu):zB 110 [eCu c]=some (.val (eI (YJ c))):=by
 rw[C110];simp only[zX];simp only[zL,zN,h29,Bool.and_self,zF,zV,zY,zb,zQ,zK,List.length_map];unfold YJ;by_cases h1:(c.p.length:Int)<2
 ·simp[h1]
 ·by_cases h2:(c.p.length:Int)>51
  ·simp[h1,h2]
  ·rw[if_neg h1,if_neg h2,if_neg h1,if_neg h2,<-zDN];have:=l110 c.p c.cut (by omega) 0 (Nat.zero_le _)
   simpa using this
theorem zCB(q:Int)(r:List Int):YU (q :: r)=if zZ q 0 40000=0 then YU r else 3:=rfl
theorem zEf(q:List Int)(r:List (List Int)):Qv (q :: r)=if YU q=0 then Qv r else 3:=rfl
theorem eqInt(n:Nat)(a b:Int):eqT EE (n+1) 3 (eI a) (eI b)=some (a == b):=by kernel_rfl
theorem eqInts(n:Nat):∀(m:Nat) (xs ys:List Int),xs.length=m->ys.length=m->zBL (eqT EE (n+1)) (List.replicate m 3) (xs.map eI) (ys.map eI)=some (decide (xs=ys))
 | 0,xs,ys,h1,h2=>by
  obtain rfl:=List.length_eq_zero_iff.1 h1;obtain rfl:=List.length_eq_zero_iff.1 h2;rfl
 | m+1,[],_,h,_=>by simp at h
 | m+1,_ :: _,[],_,h=>by simp at h
 | m+1,x :: xs,y :: ys,h1,h2=>by simp only[List.length_cons,Nat.add_right_cancel_iff] at h1 h2;simp only[List.replicate_succ,List.map_cons,zBL,eqInt,zG,eqInts n m xs ys h1 h2];by_cases h:x=y <;> simp[h]
theorem eqRow(row:List Int)(h:row.length=51)(ys:List Int)(hy:ys.length=51):Y0 EE 30 (.agg 2 (row.map eI)) (.agg 2 (ys.map eI))=some (decide (row=ys)) :=
 (show Y0 EE 30 (.agg 2 (row.map eI)) (.agg 2 (ys.map eI))=zBL (eqT EE 9) (List.replicate 51 3) (row.map eI) (ys.map eI) by kernel_rfl).trans (eqInts 8 51 row ys h hy)
theorem eqRow'(row:List Int)(h:row.length=51)(ys:List Int)(hy:ys.length=51):eqT EE 9 30 (jj row) (jj ys)=some (decide (row=ys)) :=
 (show eqT EE 9 30 (.agg 2 (row.map eI)) (.agg 2 (ys.map eI))=zBL (eqT EE 8) (List.replicate 51 3) (row.map eI) (ys.map eI) by kernel_rfl).trans (eqInts 7 51 row ys h hy)
theorem eqRows:∀(m:Nat) (xs ys:List (List Int)),xs.length=m->ys.length=m->(∀r∈xs,r.length=51)->(∀r∈ys,r.length=51)->zBL (eqT EE 9) (List.replicate m 30) (xs.map jj) (ys.map jj)=some (decide (xs=ys))
 | 0,xs,ys,h1,h2,_,_=>by
  obtain rfl:=List.length_eq_zero_iff.1 h1;obtain rfl:=List.length_eq_zero_iff.1 h2;rfl
 | m+1,[],_,h,_,_,_=>by simp at h
 | m+1,_ :: _,[],_,h,_,_=>by simp at h
 | m+1,x :: xs,y :: ys,h1,h2,h3,h4=>by
  simp only[List.length_cons,Nat.add_right_cancel_iff] at h1 h2;simp only[List.replicate_succ,List.map_cons,zBL];rw[eqRow' x (h3 x (by simp)) y (h4 y (by simp)),eqRows m xs ys h1 h2 (λr hr=>h3 r (by simp[hr])) (λr hr=>h4 r (by simp[hr]))]
  by_cases h:x=y <;> simp[h]
theorem eqRose(xs ys:List (List Int))(h1:zv xs)(h2:zv ys):Y0 EE 45 (eRo xs) (eRo ys)=some (decide (xs=ys)) :=
 (show Y0 EE 45 (.agg 3 (xs.map jj)) (.agg 3 (ys.map jj))=zBL (eqT EE 9) (List.replicate 8 30) (xs.map jj) (ys.map jj) by kernel_rfl).trans (eqRows 8 xs ys h1.1 h2.1 h1.2 h2.2)
def z51:List Int:=List.replicate 51 0
def zRose:List (List Int):=List.replicate 8 z51
theorem zRose_ok:zv zRose:=⟨rfl,λr hr=>by rw[List.eq_of_mem_replicate hr];rfl⟩
theorem Yw{α:Type}(t i:Nat)(f:α->DV)(l:List α)(h:i<l.length):jQ t i (.agg t (l.map f))=true:=by simp[jQ,h]
theorem h30r(row:List Int)(h:row.length=51):zH EE 6 30 (jj row)=true:=by rw[h30];simp[h]
theorem l159_1(r:List (List Int))(row:List Int)(s:Int)(hrow:row.length=51):∀k,k<=row.length->zFd (r.map jj) s (row.map eI) k=if YU (row.drop k)=0 then zBU (r.map jj) (IntKind.i64.wrap (s+1)) else some (.val (eI 3)):=by
 apply down
 ·rw[zFc];simp only[zX];rw[if_neg (by omega)]
  simp[YU]
 ·intro k hk ih;have e1:(k:Int)<51:=by omega
  have e0:(0:Int)<=(k:Int):=by omega
  rw[zFc,zi row k hk];simp only[zX,jE];rw[if_pos e1,if_pos e0];simp only[Int.toNat_natCast,Yw _ _ _ _ hk,zF,zP _ row k hk,h3,zK,c225,zJ,h46];rw[wr ((k:Int)+1) (by omega),show((k:Int)+1)=((k+1:Nat):Int) by omega,ih]
  rw[zCB];rcases zF4 row[k] 0 40000 with hr | hr
  ·simp[hr]
  ·simp[hr]
theorem l159_0(r:List (List Int))(h:zv r):∀s,s<=r.length->zBU (r.map jj) s=some (.val (eI (Qv (r.drop s)))):=by
 apply down
 ·rw[zFe];have:=h.1;simp only[zX];rw[if_neg (by omega)]
  simp[Qv]
 ·intro s hs ih;have hl:=h.1;have hrow:=h.2 r[s] (List.getElem_mem hs);have e1:(s:Int)<8:=by omega
  have e0:(0:Int)<=(s:Int):=by omega
  rw[zFe,zi r s hs];simp only[zX];rw[if_pos e1,if_pos e0];simp only[Int.toNat_natCast,Yw _ _ _ _ hs,zF,zP _ r s hs,h30r _ hrow,zV];have:=l159_1 r r[s] s hrow 0 (Nat.zero_le _);rw[show((0:Nat):Int)=0 from rfl] at this
  rw[this,wr ((s:Int)+1) (by omega),show((s:Int)+1)=((s+1:Nat):Int) by omega,ih,List.drop_zero]
  rw[zEf];split <;> simp_all
theorem c159(r:List (List Int))(h:zv r):zB 159 [eRo r]=some (.val (eI (Qv r))):=by
 rw[C159];simp only[zL,zN,h45,List.length_map,h.1,decide_true,Bool.and_self,zF,zV];have he:=eqRose r zRose h zRose_ok;have hz:eRo zRose=.agg 3 (List.replicate 8 (.agg 2 (List.replicate 51 (eI 0)))):=rfl;rw[hz] at he;refine(congrArg (λo:Option Bool=>ifO (Option.isSome o) (ifO (Option.getD o false) (some (.val (eI 0))) (zBU (r.map jj) 0)) none) he).trans ?_
 by_cases hr:r=zRose
 ·subst hr;simp only[decide_true,Option.isSome_some,Option.getD_some,zF];rfl
 ·simp only[hr,decide_false,Option.isSome_some,Option.getD_some,zF,zT];have:=l159_0 r h 0 (Nat.zero_le _);simpa using this
theorem l129_1(r:List (List Int))(s:Nat)(hs:s<r.length)(h8:r.length=8)(hrow:r[s].length=51):∀k,k<=r[s].length->zFr s k (r.map jj)=if YU (r[s].drop k)=0 then zCz (IntKind.i64.wrap ((s:Int)+1)) (r.map jj) else some (.val (eI 3)):=by
 apply down
 ·rw[zFq];simp only[zX];rw[if_neg (by omega)]
  simp[YU]
 ·intro k hk ih;have e1:(k:Int)<=50:=by omega
  have e2:(0:Int)<=(s:Int)/\(s:Int)<8:=by omega
  have e3:(0:Int)<=(k:Int)/\(k:Int)<51:=by omega
  rw[zFq,zi r[s] k hk];simp only[zX,jE];rw[if_pos e1,if_pos e2,if_pos e3];simp only[Int.toNat_natCast,Yw _ _ _ _ hs,zF,zP _ r s hs,Yw _ _ _ _ hk,zV,zP _ r[s] k hk,h3,zK,c37,zJ];rw[wr ((k:Int)+1) (by omega),show((k:Int)+1)=((k+1:Nat):Int) by omega,ih]
  rw[zCB];rcases zF4 r[s][k] 0 40000 with hr | hr
  ·simp[hr]
  ·simp[hr]
theorem l129_0(r:List (List Int))(h:zv r):∀s,s<=r.length->zCz s (r.map jj)=some (.val (eI (Qv (r.drop s)))):=by
 apply down
 ·rw[zFs];have:=h.1;simp only[zX];rw[if_neg (by omega)]
  simp[Qv]
 ·intro s hs ih;have hl:=h.1;have hrow:=h.2 r[s] (List.getElem_mem hs);have e1:(s:Int)<8:=by omega
  rw[zFs,zi r s hs];simp only[zX];rw[if_pos e1];have:=l129_1 r s hs hl hrow 0 (Nat.zero_le _);rw[show((0:Nat):Int)=0 from rfl] at this
  rw[this,wr ((s:Int)+1) (by omega),show((s:Int)+1)=((s+1:Nat):Int) by omega,ih,List.drop_zero]
  rw[zEf];split <;> simp_all
theorem c129(r:List (List Int))(h:zv r):zB 129 [eRo r]=some (.val (eI (Qv r))):=by rw[C129];simp only[zL,zN,h32,List.length_map,h.1,decide_true,Bool.and_self,zF,zV];have:=l129_0 r h 0 (Nat.zero_le _);simpa using this
theorem hFm(f:Fm)(h:zv f.r):zH EE 6 62 (eFm f)=true:=by rw[h62];simp[h.1]
theorem hFm'(f:Fm)(h:zv f.r):zH EE 6 34 (eFm f)=true:=by rw[h34];simp[h.1]
theorem c40(f:Fm)(h:zv f.r):zB 40 [eFm f]=some (.val (eI (J5 f))):=by rw[C40];simp only[zL,zN,hFm f h,Bool.and_self,zF,zV,zY,zb,zq,zy,zl,zK,zQ];simp only[c158,c75,c114,c159 f.r h,zJ,h46,zF,zK,c148_4];rfl
theorem c22(f:Fm)(h:zv f.r):zB 22 [eFm f]=some (.val (eI (J5 f))):=by rw[C22];simp only[zL,zN,hFm' f h,Bool.and_self,zF,zV,zY,zb,zq,zy,zl,zK,zQ];simp only[c69,c71,c110,c129 f.r h,zJ,h3,zF,zK,c35_4];rfl
end Go.Am
namespace Go.Am
open Go.Proofs
open Go
variable[OO]
abbrev eMd(w:Wk)(c:Cu)(r:List (List Int)):DV:=.agg 13 [eWk w,eCu c,eRo r]
theorem bne0{x:Int}(h:x=0):bne x 0=false:=by simp[h]
theorem b00:bne (0:Int) 0=false:=rfl
theorem bne1{x:Int}(h:¬x=0):bne x 0=true:=by simpa[bne] using h
theorem m1(a b:Unit->Bool):ifO.match_1 (λ_=>Bool) false a b=b ():=rfl
structure Valid(W:Wk)(C:Cu)(R:List (List Int))(P:List Pt):Prop where
 w:zCm W
 k:jq W.rule=true
 c:okCu C
 r:zv R
 q:okQ R
 l:P.length<=64
 p:∀p∈P,YG p
theorem zD3(n:Int):zA8 (zo n):=zDU n
section
variable[KnW]{w:Wk}{c:Cu}{r:List (List Int)}{ps:List Pt}
theorem l145_1(h:Valid w c r ps)(above:Int)(ha:0<=above/\above<=1)(sec:Nat)(hsec:sec<8)(row:List Int)(hrow:row.length=51)(hq:∀q∈row,0<=q/\q<=40000) :
  ∀k,k<=row.length->∀n:Int,0<=n->n<=(sec * 51+k) * 65536000000000 ->
   QB (ps.map ePt) above n ((je w ps sec (zo sec)).map eI) (r.map jj) sec (row.map eI) k w.rule (w.d.map eI) (w.w.map eI) (c.p.map eI) c.cut =
   QC (ps.map ePt) above (n+zCl w c ps above sec k (row.drop k)) (r.map jj) (IntKind.i64.wrap ((sec:Int)+1)) w.rule (w.d.map eI) (w.w.map eI) (c.p.map eI) c.cut:=by
 apply down (P:=λk=>∀n:Int,0<=n->n<=(sec * 51+k) * 65536000000000 ->
   QB (ps.map ePt) above n ((je w ps sec (zo sec)).map eI) (r.map jj) sec (row.map eI) k w.rule (w.d.map eI) (w.w.map eI) (c.p.map eI) c.cut =
   QC (ps.map ePt) above (n+zCl w c ps above sec k (row.drop k)) (r.map jj) (IntKind.i64.wrap ((sec:Int)+1)) w.rule (w.d.map eI) (w.w.map eI) (c.p.map eI) c.cut)
 ·intro n _ _;rw[zFl];simp only[zX];rw[if_neg (by omega)]
  simp[zCl]
 ·intro k hk ih n h0 h1;have e1:(k:Int)<51:=by omega
  have e0:(0:Int)<=(k:Int):=by omega
  have hqk:=hq row[k] (List.getElem_mem hk);have hcb:=Jc h.w ps sec (zo sec);have hcl:=jK w ps sec (zo sec);have h152:=c152 (je w ps sec (zo sec)) ((k:Int)+above) (by rw[hcl];have:=h.l;omega) (by omega) hcb
  have hsb:=zDV hcb (v:=(k:Int)+above) (b:=51) (by omega) (by omega)
  have hsl:(QH (je w ps sec (zo sec)) ((k:Int)+above)).length=ps.length:=by simp[QH,hcl]
  have h151:=c151v c h.c (QH (je w ps sec (zo sec)) ((k:Int)+above)) (by rw[hsl];have:=h.l;omega) (λx hx=>by have:=hsb x hx;omega)
  have hpb:=zEh h.c.2.2.1 w ps sec k above;have h231:=c231 (Ym w c ps sec k above) (by rw[zCU];have:=h.l;omega) (λx hx=>by have:=hpb x hx;omega)
  have hsum:=zJH h.c.2.2.1 w h.l sec k above;have hce:=zDr h.c.2.2.1 w h.l above sec k hqk;have hpow:(QH (je w ps sec (zo sec)) ((k:Int)+above)).map (zAV c)=Ym w c ps sec k above:=rfl;rw[hpow] at h151;have ih':=ih (n+zCf w c ps above sec k row[k]) (by omega) (by simp only[Int.natCast_add,Int.natCast_one];omega)
  rw[zFl,zi row k hk,zCl];simp only[zX];rw[if_pos e1,if_pos e0];simp only[Int.toNat_natCast,Yw _ _ _ _ hk,zF,zP _ row k hk,h3,zK];rw[wr ((k:Int)+above) (by omega),h152,wr ((k:Int)+1) (by omega)]
  simp only[zJ,h25,zF,zQ,h151,h231,h3,zK];have e2:((k:Int)+1)=((k+1:Nat):Int):=by omega
  by_cases c1:row[k]>0
  ·by_cases c2:(k:Int)<c.cut
   ·have hv:zCf w c ps above sec k row[k]=row[k] * z1 (Ym w c ps sec k above):=if_pos ⟨c1,c2⟩;rw[hv] at hce ih' ⊢;rw[if_pos c1,if_pos c2,wr (row[k] * _) (by omega),wr (n+_) (by omega),e2,ih',Int.add_assoc]
   ·have hv:zCf w c ps above sec k row[k]=0:=if_neg (λhh=>c2 hh.2)
    rw[hv] at hce ih' ⊢;rw[if_pos c1,if_neg c2,e2];rw[Int.add_zero] at ih';rw[ih',Int.zero_add]
  ·have hv:zCf w c ps above sec k row[k]=0:=if_neg (λhh=>c1 hh.1)
   rw[hv] at hce ih' ⊢;rw[if_neg c1,e2];rw[Int.add_zero] at ih';rw[ih',Int.zero_add]
theorem l145_0(h:Valid w c r ps)(above:Int)(ha:0<=above/\above<=1):∀s,s<=r.length->∀n:Int,0<=n->n<=(s * 51:Int) * 65536000000000 ->
  QC (ps.map ePt) above n (r.map jj) s w.rule (w.d.map eI) (w.w.map eI) (c.p.map eI) c.cut=some (.val (eI (n+enE w c ps above s (r.drop s)))):=by
 apply down (P:=λs=>∀n:Int,0<=n->n<=(s * 51:Int) * 65536000000000 ->
  QC (ps.map ePt) above n (r.map jj) s w.rule (w.d.map eI) (w.w.map eI) (c.p.map eI) c.cut=some (.val (eI (n+enE w c ps above s (r.drop s)))))
 ·intro n _ _;have:=h.r.1;rw[zFm];simp only[zX];rw[if_neg (by omega)]
  simp[enE]
 ·intro s hs ih n h0 h1;have hl:=h.r.1;have hrow:=h.r.2 r[s] (List.getElem_mem hs);have hq:=h.q r[s] (List.getElem_mem hs);have e1:(s:Int)<8:=by omega
  have e0:(0:Int)<=(s:Int):=by omega
  have hr0:zZ (s:Int) 0 7=0:=jF.2 (by omega)
  have h153:=c153 w ps s (zo s) h.w h.k h.l h.p (zD3 s);have hre:=zBd h.c.2.2.1 w h.l above s r[s] 0 hq;rw[hrow] at hre;have ih':=ih (n+zCl w c ps above s 0 r[s]) (by omega) (by simp only[Int.natCast_add,Int.natCast_one];omega)
  have e2:((s:Int)+1)=((s+1:Nat):Int):=by omega
  have hz:(List.replicate 51 (eI 0))=z51.map eI:=rfl;have he:=eqRow r[s] hrow z51 rfl;have key:QB (ps.map ePt) above n ((je w ps s (zo s)).map eI) (r.map jj) s (r[s].map eI) (0:Int) w.rule (w.d.map eI) (w.w.map eI) (c.p.map eI) c.cut=some (.val (eI (n+(zCl w c ps above s 0 r[s]+enE w c ps above (s+1) (r.drop (s+1)))))):=by
   have k1:=l145_1 h above ha s (by omega) r[s] hrow hq 0 (Nat.zero_le _) n h0 (by omega)
   rw[show((0:Nat):Int)=0 from rfl,List.drop_zero] at k1
   rw[k1,wr ((s:Int)+1) (by omega),e2,ih',Int.add_assoc]
  rw[zFm,zi r s hs,enE];simp only[zX];rw[if_pos e1,if_pos e0];simp only[Int.toNat_natCast,Yw _ _ _ _ hs,zF,zP _ r s hs,h30r _ hrow,zV,m1];rw[C230];simp only[zJ];have hr':zH EE 6 30 (jj z51)=true:=h30r z51 rfl;refine(congrArg (λb=>ifO b (ifO (Option.isSome (Y0 EE 30 (.agg 2 (r[s].map eI)) (jj z51))) (ifO (Option.getD (Y0 EE 30 (.agg 2 (r[s].map eI)) (jj z51)) false) _ _) none) none) hr').trans ?_
  rw[he,show zB 147 [eI (s:Int)]=some (.val (.tup [eWd s (zo s),eI 0])) by rw[c147,if_pos hr0,hr0]]
  simp only[Option.isSome_some,Option.getD_some,zF,zJ,zz,jD,zL,zN,h251,h46,Bool.and_self,zY,zb,zV,zK,h153,h25,zQ];by_cases hz':r[s]=z51
  ·have h0':=zG4 w c ps above s r[s] 0 (λq hq=>by rw[hz'] at hq;exact List.eq_of_mem_replicate hq)
   rw[h0',Int.add_zero] at ih';rw[h0',Int.zero_add];simp only[decide_eq_true hz',zF];rw[wr ((s:Int)+1) (by omega),e2,ih']
  ·simp only[hz',decide_false,zT];exact key
theorem c145(h:Valid w c r ps)(above:Int)(ha:0<=above/\above<=1):zB 145 [eMd w c r,.sl 2 (ps.map ePt),eI above]=some (.val (eI (Jl w c r ps above))):=by
 rw[C145];simp only[zL,zN,h246,h81,h3,List.length_map,h.r.1,decide_true,Bool.and_self,zF,zV,zY,zb,zq,zl,zK,zQ];have:=l145_0 h above ha 0 (Nat.zero_le _) 0 (by omega) (by omega)
 rw[Int.zero_add,List.drop_zero] at this;exact this
end
theorem jn{f:Fm}(h:J5 f=0)(hr:zv f.r):Valid f.w f.c f.r (JA f.s)/\jb f.s=0:=by
 obtain⟨h1,h2,h3,h4⟩:=YQ h;obtain⟨hok,_,_,_,hl⟩:=qP h1;exact⟨⟨(wakeE_ok h2).1,(wakeE_ok h2).2,(Yj h3).1,hr,zF3 h4,by simpa[JA] using hl,λp hp=>by
  obtain⟨t,ht,rfl⟩:=List.mem_map.1 hp;exact(hok t ht).1⟩,h1⟩
theorem jp(s:Si):(JA s).length=s.tb.length:=by simp[JA]
theorem hMd(w:Wk)(c:Cu)(r:List (List Int))(h:zv r):zH EE 6 246 (eMd w c r)=true:=by rw[h246];simp[h.1]
theorem c144(f:Fm)(h:zv f.r):zB 144 [eFm f]=some (.val (eMd f.w f.c f.r)):=by rw[C144];simp only[zL,zN,hFm f h,Bool.and_self,zF,zV,zY,zb,zq,zy,zl,zK,zQ]
theorem c202(w:Wk)(c:Cu)(r:List (List Int))(h:zv r):zB 202 [eMd w c r]=some (.val (eMd wkFree c r)):=by rw[C202];simp only[zL,zN,hMd w c r h,Bool.and_self,zF,zV,zY,zb,zq,zy,zl,zK,zQ];rfl
section
variable[KnW](f:Fm)(h:zv f.r)
include h
def enF(f:Fm)(above:Int):Int:=if J5 f=0 then Jl f.w f.c f.r (JA f.s) above else 0
def Yc(f:Fm):Int:=if J5 f=0 then Jl wkFree f.c f.r (JA f.s) 0 else 0
theorem c30:zB 30 [eFm f]=some (.val (.tup [eI (enF f 0),eI (J5 f)])):=by
 rw[C30];simp only[zL,zN,hFm f h,Bool.and_self,zF,zV,zY,zb,zq,zy,zl,zK,zQ];simp only[c40 f h,zJ,h46,zF,zK];unfold enF;by_cases h0:J5 f=0
 ·obtain⟨hv,hs⟩:=jn h0 h;have hl:=hv.l;rw[jp] at hl;rw[if_pos h0];simp only[b00,bne0 h0,zT,if_true,c144 f h,zJ,hMd _ _ _ h,zF,c146 f.s (by omega),h81,zQ,zV,zY,zb,zq,zl,zK,c145 hv 0 (by omega),h3,h0]
 ·rw[if_neg h0];simp only[bne1 h0,zF]
theorem c84:zB 84 [eFm f]=some (.val (.tup [eI (Yc f),eI (J5 f)])):=by
 rw[C84];simp only[zL,zN,hFm f h,Bool.and_self,zF,zV,zY,zb,zq,zy,zl,zK,zQ];simp only[c40 f h,zJ,h46,zF,zK];unfold Yc;by_cases h0:J5 f=0
 ·obtain⟨hv,hs⟩:=jn h0 h;have hl:=hv.l;rw[jp] at hl;have hv':Valid wkFree f.c f.r (JA f.s):=⟨⟨λd hd=>by simp[wkFree] at hd;omega,rfl,by simp[wkFree]⟩,by decide,hv.c,hv.r,hv.q,hv.l,hv.p⟩
  rw[if_pos h0];simp only[b00,bne0 h0,zT,if_true,c144 f h,zJ,hMd _ _ _ h,zF,c202 _ _ _ h,c146 f.s (by omega),h81,zQ,zV,zY,zb,zq,zl,zK,c145 hv' 0 (by omega),h3,h0]
 ·rw[if_neg h0];simp only[bne1 h0,zF]
theorem c83:zB 83 [eFm f]=some (.val (.tup [.agg 1 [eI (enF f 0),eI (enF f 1)],eI (J5 f)])):=by
 rw[C83];simp only[zL,zN,hFm f h,Bool.and_self,zF,zV,zY,zb,zq,zy,zl,zK,zQ];simp only[c40 f h,zJ,h46,zF,zK];unfold enF;by_cases h0:J5 f=0
 ·obtain⟨hv,hs⟩:=jn h0 h;have hl:=hv.l;rw[jp] at hl;simp only[if_pos h0,b00,bne0 h0,zT,if_true,c144 f h,zJ,hMd _ _ _ h,zF,c146 f.s (by omega),h81,zQ,zV,zY,zb,zq,zl,zK,c145 hv 0 (by omega),c145 hv 1 (by omega),h3,h0]
 ·simp only[if_neg h0,bne1 h0,zF]
end
theorem c106(c:Cu)(v:Int):zB 106 [eCu c,eI v]=some (.val (.tup [eI (if zO [YJ c,zZ v 0 13056]=0 then zAV c v else 0),eI (zO [YJ c,zZ v 0 13056])])):=by
 rw[C106];simp only[zL,zN,h60,h3,Bool.and_self,zF,zV,zY,zb,zK,zQ,c114,zJ,h46,c149,zAP];by_cases h0:zO [YJ c,zZ v 0 13056]=0
 ·have h1:=jH h0;have h2:=jF.1 (jH h1.2).1;rw[if_pos h0];simp only[b00,bne0 h0,zT,if_true,zGo c (Yj h1.1).1 v h2.1 h2.2,zJ,h3,zF,zK,h0]
 ·rw[if_neg h0];simp only[bne1 h0,zF]
def chk3(s:Si)(w:Wk)(sec:Int):Int:=zO [jb s,wakeE w,zZ sec 0 7]
theorem chk3_eq(s:Si)(w:Wk)(sec:Int):chk3 s w sec=if zO [jb s,wakeE w]=0 then zZ sec 0 7 else zO [jb s,wakeE w]:=by
 unfold chk3 zO;by_cases h1:jb s=0
 ·by_cases h2:wakeE w=0
  ·by_cases h3:zZ sec 0 7=0 <;> simp[h1,h2,h3,zO]
  ·simp[h1,h2,zO]
 ·simp[h1]
theorem c199(s:Si)(w:Wk)(sec:Int):zB 199 [eSi s,eWk w,eI sec]=some (.val (.tup [if chk3 s w sec=0 then eWd sec (zo sec) else eWd 0 ⟨0,0⟩,eI (chk3 s w sec)])):=by
 rw[C199,chk3_eq];simp only[zL,zN,h58,h59,h3,Bool.and_self,zF,zV,zY,zb,zq,zl,zK,zQ,c158,c75,zJ,h46,zAP];by_cases h0:zO [jb s,wakeE w]=0
 ·rw[if_pos h0];simp only[b00,bne0 h0,zT,if_true,c147];by_cases h1:zZ sec 0 7=0
  ·simp[h0,h1]
  ·simp[h0,h1]
 ·rw[if_neg h0];simp[bne1 h0,h0]
theorem zIJ{s:Si}{w:Wk}{sec:Int}(h:chk3 s w sec=0):zCm w/\jq w.rule=true/\(JA s).length<=64/\(∀p∈JA s,YG p)/\0<=sec/\sec<=7:=by
 obtain⟨h1,h2,h3⟩:=zAs h;obtain⟨hok,_,_,_,hl⟩:=qP h1;have:=jF.1 h3;exact⟨(wakeE_ok h2).1,(wakeE_ok h2).2,by simpa[JA] using hl,λp hp=>by
  obtain⟨t,ht,rfl⟩:=List.mem_map.1 hp;exact(hok t ht).1,this.1,this.2⟩
section
variable[KnW](s:Si)(w:Wk)(sec:Int)
theorem c77:zB 77 [eSi s,eWk w,eI sec]=some (.val (.tup [.sl 1 ((if chk3 s w sec=0 then je w (JA s) sec (zo sec) else []).map eI),eI (chk3 s w sec)])):=by
 rw[C77];simp only[zL,zN,h58,h59,h3,Bool.and_self,zF,zV,zY,zb,zq,zl,zK,zQ,c199,zJ,zz,jD];by_cases h0:chk3 s w sec=0
 ·obtain⟨a,b,hl,hp,_,_⟩:=zIJ h0;have hl':=hl;rw[jp] at hl';simp only[if_pos h0];simp only[b00,bne0 h0,zT,if_true,h251,h46,Bool.and_self,zF,zK,c146 s (by omega),zJ,h81,zQ,zV,zY,zb,c153 w (JA s) sec (zo sec) a b hl hp (zD3 sec),h25,h0]
 ·simp only[if_neg h0];simp only[bne1 h0,h251,h46,Bool.and_self,zF,zK];rfl
theorem c76:zB 76 [eSi s,eWk w,eI sec]=some (.val (.tup [.sl 1 ((if chk3 s w sec=0 then wakesP w (JA s) sec (zo sec) else []).map λr=>.sl 1 (r.map eI)),eI (chk3 s w sec)])):=by
 rw[C76];simp only[zL,zN,h58,h59,h3,Bool.and_self,zF,zV,zY,zb,zq,zl,zK,zQ,c199,zJ,zz,jD];by_cases h0:chk3 s w sec=0
 ·obtain⟨a,b,hl,hp,_,_⟩:=zIJ h0;have hl':=hl;rw[jp] at hl';simp only[if_pos h0];simp only[b00,bne0 h0,zT,if_true,h251,h46,Bool.and_self,zF,zK,c146 s (by omega),zJ,h81,zQ,zV,zY,zb,KnW.wakes w (JA s) sec (zo sec) a.2.1 a.2.2 hl hp (zD3 sec),h95,zIb,h0]
 ·simp only[if_neg h0];simp only[bne1 h0,h251,h46,Bool.and_self,zF,zK];rfl
def chk4(s:Si)(w:Wk)(sec v:Int):Int:=zO [chk3 s w sec,zZ v 0 50]
theorem c78(v:Int):zB 78 [eSi s,eWk w,eI sec,eI v]=some (.val (.tup [.sl 1 ((if chk4 s w sec v=0 then QH (je w (JA s) sec (zo sec)) v else []).map eI),eI (chk4 s w sec v)])):=by
 rw[C78];simp only[zL,zN,h58,h59,h3,Bool.and_self,zF,zV,zY,zb,zq,zy,zl,zK,zQ,c199,zJ,zz,jD];have hT:zH EE 6 251 (if chk3 s w sec=0 then eWd sec (zo sec) else eWd 0 ⟨0,0⟩)=true:=by split <;> rw[h251]
 simp only[hT,h46,Bool.and_self,zF,zK,c149,zJ,zAP];have hc4:zO [chk3 s w sec,zZ v 0 50]=chk4 s w sec v:=rfl;rw[hc4];by_cases h0:chk4 s w sec v=0
 ·have h1:=jH h0;have h2:=jF.1 (jH h1.2).1;obtain⟨a,b,hl,hp,_,_⟩:=zIJ h1.1;have hl':=hl;rw[jp] at hl';simp only[if_pos h0,if_pos h1.1,b00,bne0 h0,zT,if_true];simp only[c146 s (by omega),zJ,h81,zQ,zV,zY,zb,zK,zF,c153 w (JA s) sec (zo sec) a b hl hp (zD3 sec),h25,h0,c152 _ v (by rw[jK];omega) (by omega) (Jc a (JA s) sec (zo sec))]
 ·simp only[if_neg h0,bne1 h0,zF];rfl
end
def zH6(f:Fm)(sec v:Int):Int:=zO [J5 f,zZ sec 0 7,zZ v 0 50]
def zBe(f:Fm)(sec v:Int):List Int:=if v>=f.c.cut then List.replicate f.s.tb.length 0 else Ym f.w f.c (JA f.s) sec v 0
theorem c32[KnW](f:Fm)(h:zv f.r)(sec v:Int):zB 32 [eFm f,eI sec,eI v]=some (.val (.tup [.sl 1 ((if zH6 f sec v=0 then zBe f sec v else []).map eI),eI (zH6 f sec v)])):=by
 rw[C32];simp only[zX];simp only[zL,zN,hFm f h,h3,Bool.and_self,zF,zV,zY,zb,zq,zy,zl,zK,zQ];simp only[c40 f h,zJ,h46,zF,zK];by_cases h0:J5 f=0
 ·obtain⟨hv,hs⟩:=jn h0 h;have hl:=hv.l;rw[jp] at hl;have hpe:zH6 f sec v=zO [zZ sec 0 7,zZ v 0 50]:=by unfold zH6;rw[zO,if_pos h0]
  have hT:zH EE 6 251 (if zZ sec 0 7=0 then eWd sec (zo sec) else eWd 0 ⟨0,0⟩)=true:=by split <;> rw[h251]
  simp only[b00,bne0 h0,zT,if_true,c147];simp only[zJ,zz,jD,zL,zN,hT,h46,Bool.and_self,zF,zY,zb,zK,c149,zAP];rw[<-hpe];by_cases h1:zH6 f sec v=0
  ·rw[hpe] at h1;have h2:=jH h1;have h3':=jF.1 (jH h2.2).1;rw[<-hpe] at h1;rw[if_pos h1];simp only[bne0 h1,zT];unfold zBe;by_cases h4:v>=f.c.cut
   ·refine(if_pos h4).trans ?_;rw[if_pos h4];have e1:(0:Int)<=(f.s.tb.length:Int):=by omega
    have e2:8 * (f.s.tb.length:Int)<=281474976710656:=by omega
    have e3:(f.s.tb.length:Int)<=9223372036854775807:=by omega
    simp[h1,e1,e2,e3]
   ·refine(if_neg h4).trans ?_;rw[if_neg h4,if_pos h2.1];have hcb:=Jc hv.w (JA f.s) sec (zo sec);have hsb:=zDV hcb (v:=v) (b:=50) h3'.1 h3'.2;simp only[c146 f.s (by omega),zJ,h81,zQ,zV,zY,zb,zK,zF,c153 f.w (JA f.s) sec (zo sec) hv.w hv.k hv.l hv.p (zD3 sec),h25,h1,
     c152 _ v (by rw[jK,jp];omega) (by omega) hcb,c151v f.c hv.c (QH (je f.w (JA f.s) sec (zo sec)) v) (by simp[QH,jK,jp];omega) (λx hx=>by have:=hsb x hx;omega)]
    rw[Ym,Int.add_zero]
  ·rw[if_neg h1];simp only[bne1 h1,zF];rfl
 ·have hpe:zH6 f sec v=J5 f:=by unfold zH6;rw[zO,if_neg h0]
  rw[hpe,if_neg h0];simp only[bne1 h0,zF];rfl
end Go.Am
namespace Go.Am
open Go.Proofs
open Go
variable[OO]
structure SiteOK(S:Si)(W:Wk)(sec:Int):Prop where
 w:zCm W
 l:S.tb.length<=64
 p:∀t∈S.tb,YG t.at'
 s:0<=sec/\sec<=7
section
variable{s:Si}{w:Wk}{sec:Int}(h:SiteOK s w sec)
include h
end
section
variable(l:List Int)(hl:l.length<=64)(hb:∀x∈l,0<=x/\x<=256)
include hl hb
end
def zGW(l:List Int):CR:=if l=[] then .val .nl else .fresh 1 (l.map eI)
def okFm(f:Fm):Prop:=Valid f.w f.c f.r (JA f.s)
theorem okFm.free{f:Fm}(h:okFm f):okFm { f with w:=wkFree } :=
 ⟨⟨λd hd=>by simp[wkFree] at hd;omega,rfl,by simp[wkFree]⟩,(show jq rM=true by decide),h.c,h.r,h.q,h.l,h.p⟩
end Go.Am
namespace Go.Am
open Go.Proofs
open Go
variable[OO]
theorem C44(x0 x1:DV):zB 44 [x0,x1] =
 ifO (zS (zH EE 6) [88,3] [x0,x1])
 (zI (zB 160 [(.agg 6 [(.sl 2 (elems (nth (flds x0) 0))),(eI (zC (nth (flds x0) 1))),(.agg 0 [(.str (ze (nth (flds (nth (flds x0) 2)) 0))),(.sl 1 (elems (nth (flds (nth (flds x0) 2)) 1))),(.sl 1 (elems (nth (flds (nth (flds x0) 2)) 2)))]),(.agg 1 [(.sl 1 (elems (nth (flds (nth (flds x0) 3)) 0))),(eI (zC (nth (flds (nth (flds x0) 3)) 1)))]),(.agg 3 (flds (nth (flds x0) 4)))])])
 (λr0=>ifO (zH EE 6 46 r0)
 (zI (zB 149 [(eI (zC x1)),(eI 0),(eI (((List.length (elems (nth (flds x0) 0))):Nat):Int))])
 (λr1=>ifO (zH EE 6 46 r1)
 (zI (zB 148 [(.sl 1 [(eI (zC r0)),(eI (zC r1))])])
 (λr2=>ifO (zH EE 6 46 r2)
 (ifO (bne (zC r2) 0)
 (some (.val (.tup [(.sl 1 []),(eI 0),(eI (zC r2))])))
 (zI (zB 161 [(.agg 6 [(.sl 2 (elems (nth (flds x0) 0))),(eI (zC (nth (flds x0) 1))),(.agg 0 [(.str (ze (nth (flds (nth (flds x0) 2)) 0))),(.sl 1 (elems (nth (flds (nth (flds x0) 2)) 1))),(.sl 1 (elems (nth (flds (nth (flds x0) 2)) 2)))]),(.agg 1 [(.sl 1 (elems (nth (flds (nth (flds x0) 3)) 0))),(eI (zC (nth (flds (nth (flds x0) 3)) 1)))]),(.agg 3 (flds (nth (flds x0) 4)))])])
 (λr3=>ifO (zH EE 6 268 r3)
 (zI (zB 163 [(.agg 6 [(.sl 2 (elems (nth (flds x0) 0))),(eI (zC (nth (flds x0) 1))),(.agg 0 [(.str (ze (nth (flds (nth (flds x0) 2)) 0))),(.sl 1 (elems (nth (flds (nth (flds x0) 2)) 1))),(.sl 1 (elems (nth (flds (nth (flds x0) 2)) 2)))]),(.agg 1 [(.sl 1 (elems (nth (flds (nth (flds x0) 3)) 0))),(eI (zC (nth (flds (nth (flds x0) 3)) 1)))]),(.agg 3 (flds (nth (flds x0) 4)))])])
 (λr4=>ifO (zH EE 6 25 r4)
 (zI (zB 162 [(.dp (undp r3)),(.sl 1 (elems r4)),(.sl 1 []),(eI (zC x1))])
 (λr5=>ifO ((DV.isTup r5) && (zS (zH EE 6) [266,4] (tups r5)))
 (ifO (!(YI (nth (tups r5) 1)))
 (some (.val (.tup [(.sl 1 []),(eI 0),(eI 24)])))
 (some (.val (.tup [(.sl 1 (elems (nth (flds (nth (tups r5) 0)) 0))),(eI (zC (nth (flds (nth (tups r5) 0)) 1))),(eI 0)]))))
 (none))
 (λ_ _=>none))
 (none))
 (λ_ _=>none))
 (none))
 (λ_ _=>none)))
 (none))
 (λ_ _=>none))
 (none))
 (λ_ _=>none))
 (none))
 (λ_ _=>none))
 (none) :=
 (zM (f:=44) (by kernel_rfl) (by kernel_rfl) (by kernel_rfl) [x0,x1]).trans (by kernel_rfl)
theorem C160(x0:DV):zB 160 [x0] =
 ifO (zS (zH EE 6) [88] [x0])
 (zI (zB 49 [(.agg 6 [(.sl 2 (elems (nth (flds x0) 0))),(eI (zC (nth (flds x0) 1))),(.agg 0 [(.str (ze (nth (flds (nth (flds x0) 2)) 0))),(.sl 1 (elems (nth (flds (nth (flds x0) 2)) 1))),(.sl 1 (elems (nth (flds (nth (flds x0) 2)) 2)))]),(.agg 1 [(.sl 1 (elems (nth (flds (nth (flds x0) 3)) 0))),(eI (zC (nth (flds (nth (flds x0) 3)) 1)))]),(.agg 3 (flds (nth (flds x0) 4)))])])
 (λr0=>ifO (zH EE 6 46 r0)
 (zI (zB 169 [(.bool (decide ((((List.length (elems (nth (flds x0) 0))):Nat):Int)>(8:Int)))),(eI 23)])
 (λr1=>ifO (zH EE 6 46 r1)
 (zI (zB 148 [(.sl 1 [(eI (zC r0)),(eI (zC r1))])])
 (λr2=>ifO (zH EE 6 46 r2)
 (some (.val (eI (zC r2))))
 (none))
 (λ_ _=>none))
 (none))
 (λ_ _=>none))
 (none))
 (λ_ _=>none))
 (none) :=
 (zM (f:=160) (by kernel_rfl) (by kernel_rfl) (by kernel_rfl) [x0]).trans (by kernel_rfl)
def S49_0a(v0:List DV)(v1 v2 v3:Int)(v4:ByteArray)(v5 v6 v7:List DV)(v8:Int)(v9:List DV):St :=
 zx 50 [(1,(.ptr 1 415 0 [])),(12,(.d (.sl 2 v0))),(13,(.d (eI v1))),(14,(.d (eI v2)))] [(1,(.mk false (.dc 415 [(.agg 6 [(.sl 2 v0),(eI v3),(.agg 0 [(.str v4),(.sl 1 v5),(.sl 1 v6)]),(.agg 1 [(.sl 1 v7),(eI v8)]),(.agg 3 v9)])])))]
noncomputable def zIi(v0:List DV)(v1 v2 v3:Int)(v4:ByteArray)(v5 v6 v7:List DV)(v8:Int)(v9:List DV):Option CR:=goQ 49 0 (S49_0a v0 v1 v2 v3 v4 v5 v6 v7 v8 v9)
theorem zHd(v0:List DV)(v1 v2 v3:Int)(v4:ByteArray)(v5 v6 v7:List DV)(v8:Int)(v9:List DV):zIi v0 v1 v2 v3 v4 v5 v6 v7 v8 v9 =
 ifO (decide (v2<v1))
 (ifO (decide (((0:Int)<=v2)/\(v2<(((List.length v0):Nat):Int))))
 (ifO (zH EE 6 141 (nth v0 (Int.toNat v2)))
 (ifO (decide ((0:Int)<=v2))
 (ifO (decide ((0<=(Int.toNat v2))/\((Int.toNat v2)<=(List.length v0))))
 (zI (zB 166 [(.sl 2 (List.drop 0 (List.take (Int.toNat v2) v0))),(.fn 167 [] [(.dp (.agg 1 [(eI (zC (nth (flds (nth v0 (Int.toNat v2))) 0))),(eI (zC (nth (flds (nth v0 (Int.toNat v2))) 1)))]))])])
 (λr0=>ifO (zH EE 6 4 r0)
 (zI (zB 168 [(.agg 1 [(eI (zC (nth (flds (nth v0 (Int.toNat v2))) 0))),(eI (zC (nth (flds (nth v0 (Int.toNat v2))) 1)))])])
 (λr1=>ifO (zH EE 6 46 r1)
 (zI (zB 169 [(.bool (YI r0)),(eI 9)])
 (λr2=>ifO (zH EE 6 46 r2)
 (zI (zB 148 [(.sl 1 [(eI (zC r1)),(eI (zC r2))])])
 (λr3=>ifO (zH EE 6 46 r3)
 (ifO (bne (zC r3) 0)
 (some (.val (eI (zC r3))))
 ((zIi v0 v1 (IntKind.wrap .i64 (v2+(1:Int))) v3 v4 v5 v6 v7 v8 v9)))
 (none))
 (λ_ _=>none))
 (none))
 (λ_ _=>none))
 (none))
 (λ_ _=>none))
 (none))
 (λ_ _=>none))
 (none))
 (none))
 (none))
 (none))
 (zI (zB 158 [(.agg 0 [(.str (bs [112,108,97,110])),(eI v3),(.sl 3 [])])])
 (λr12=>ifO (zH EE 6 46 r12)
 (zI (zB 75 [(.agg 0 [(.str v4),(.sl 1 v5),(.sl 1 v6)])])
 (λr13=>ifO (zH EE 6 46 r13)
 (zI (zB 114 [(.agg 1 [(.sl 1 v7),(eI v8)])])
 (λr14=>ifO (zH EE 6 46 r14)
 (zI (zB 159 [(.agg 3 v9)])
 (λr15=>ifO (zH EE 6 46 r15)
 (zI (zB 148 [(.sl 1 [(eI (zC r12)),(eI (zC r13)),(eI (zC r14)),(eI (zC r15))])])
 (λr16=>ifO (zH EE 6 46 r16)
 (some (.val (eI (zC r16))))
 (none))
 (λ_ _=>none))
 (none))
 (λ_ _=>none))
 (none))
 (λ_ _=>none))
 (none))
 (λ_ _=>none))
 (none))
 (λ_ _=>none)) :=
 (zk 49 0 _).trans (by kernel_rfl)
theorem C49(x0:DV):zB 49 [x0] =
 ifO (zS (zH EE 6) [88] [x0])
 (ifO (decide ((((List.length (elems (nth (flds x0) 0))):Nat):Int)>(64:Int)))
 (some (.val (eI 5)))
 ((zIi (elems (nth (flds x0) 0)) (((List.length (elems (nth (flds x0) 0))):Nat):Int) (0:Int) (zC (nth (flds x0) 1)) (ze (nth (flds (nth (flds x0) 2)) 0)) (elems (nth (flds (nth (flds x0) 2)) 1)) (elems (nth (flds (nth (flds x0) 2)) 2)) (elems (nth (flds (nth (flds x0) 3)) 0)) (zC (nth (flds (nth (flds x0) 3)) 1)) (flds (nth (flds x0) 4)))))
 (none) :=
 (zM (f:=49) (by kernel_rfl) (by kernel_rfl) (by kernel_rfl) [x0]).trans (by kernel_rfl)
theorem C166(x0 x1:DV):zB 166 [x0,x1] =
 ifO (zS (zH EE 6) [81,275] [x0,x1])
 (zI (zB 244 [(.sl 2 (elems x0)),(.fn (zEv x1) (fnA x1) (fnC x1))])
 (λr0=>ifO (zH EE 6 3 r0)
 (some (.val (.bool (decide ((zC r0)>=(0:Int))))))
 (none))
 (λ_ _=>none))
 (none) :=
 (zM (f:=166) (by kernel_rfl) (by kernel_rfl) (by kernel_rfl) [x0,x1]).trans (by kernel_rfl)
def S244_0a(v0:List DV)(v1:Nat)(v2 v3:List DV)(v4 v5:Int):St :=
 zx 19 [(0,(.d (.sl 2 v0))),(1,(.d (.fn v1 v2 v3))),(7,(.d (eI v4))),(8,(.d (eI v5)))] []
noncomputable def zCw(v0:List DV)(v1:Nat)(v2 v3:List DV)(v4 v5:Int):Option CR:=goQ 244 0 (S244_0a v0 v1 v2 v3 v4 v5)
theorem zFH(v0:List DV)(v1:Nat)(v2 v3:List DV)(v4 v5:Int):zCw v0 v1 v2 v3 v4 v5 =
 ifO (decide (v5<v4))
 (ifO (decide (((0:Int)<=v5)/\(v5<(((List.length v0):Nat):Int))))
 (ifO (zH EE 6 141 (nth v0 (Int.toNat v5)))
 (zI (zB v1 (zu EE v1 ((v2++[(.agg 1 [(eI (zC (nth (flds (nth v0 (Int.toNat v5))) 0))),(eI (zC (nth (flds (nth v0 (Int.toNat v5))) 1)))])])++v3)))
 (λr0=>ifO (zH EE 6 4 r0)
 (ifO (YI r0)
 (some (.val (eI v5)))
 ((zCw v0 v1 v2 v3 v4 (IntKind.wrap .i64 (v5+(1:Int))))))
 (none))
 (λ_ _=>none))
 (none))
 (none))
 (some (.val (eI (-1)))) :=
 (zk 244 0 _).trans (by kernel_rfl)
theorem C244(x0 x1:DV):zB 244 [x0,x1] =
 ifO (zS (zH EE 6) [81,275] [x0,x1])
 ((zCw (elems x0) (zEv x1) (fnA x1) (fnC x1) (((List.length (elems x0)):Nat):Int) (0:Int)))
 (none) :=
 (zM (f:=244) (by kernel_rfl) (by kernel_rfl) (by kernel_rfl) [x0,x1]).trans (by kernel_rfl)
theorem C167(x0 x1:DV):zB 167 [x0,x1] =
 ifO (((zS (zH EE 6) [141] [x0]) && true) && (List.all [x1] zIC))
 (ifO (zH EE 6 141 (undp x1))
 (some (.val (.bool (ifO.match_1 (λy994=>Bool) false (λy339=>(!(Option.getD (Y0 EE 141 (.agg 1 [(eI (zC (nth (flds (undp x1)) 0))),(eI (zC (nth (flds (undp x1)) 1)))]) (.agg 1 [(eI (zC (nth (flds x0) 0))),(eI (zC (nth (flds x0) 1)))])) false))) (λy124=>(Option.getD (Y0 EE 141 (.agg 1 [(eI (zC (nth (flds (undp x1)) 0))),(eI (zC (nth (flds (undp x1)) 1)))]) (.agg 1 [(eI (zC (nth (flds x0) 0))),(eI (zC (nth (flds x0) 1)))])) false))))))
 (none))
 (none) :=
 (zM (f:=167) (by kernel_rfl) (by kernel_rfl) (by kernel_rfl) [x0,x1]).trans (by kernel_rfl)
def S163_0a(v0:Int):St :=
 zx 17 [(3,(.d .nl)),(7,(.d (eI v0))),(8,(.d (eI 0)))] []
noncomputable def L163_0a(v0:Int):Option CR:=goQ 163 0 (S163_0a v0)
def S163_0b(v0:List DV)(v1 v2:Int):St :=
 zx 17 [(3,(.own 14 0 (List.length v0) 1)),(7,(.d (eI v1))),(8,(.d (eI v2)))] [(14,(.mk false (.dc 1 v0)))]
noncomputable def zCy(v0:List DV)(v1 v2:Int):Option CR:=goQ 163 0 (S163_0b v0 v1 v2)
theorem L163_0a_eq(v0:Int):L163_0a v0 =
 ifO (decide ((0:Int)<v0))
 ((zCy [(eI 0)] v0 (1:Int)))
 (some (.val (.sl 1 []))) :=
 (zk 163 0 _).trans (by kernel_rfl)
theorem zFW(v0:List DV)(v1 v2:Int):zCy v0 v1 v2 =
 ifO (decide (v2<v1))
 (ifO (decide ((List.length v0)=(List.length v0)))
 (ifO (decide ((((2 * ((List.length v0)+1))+200) * 8)<=281474976710656))
 ((zCy (v0++[(eI v2)]) v1 (IntKind.wrap .i64 (v2+(1:Int)))))
 (none))
 (none))
 (ifO (decide ((0+(List.length v0))<=(List.length v0)))
 (some (.val (.sl 1 (List.take (List.length v0) (List.drop 0 v0)))))
 (none)) :=
 (zk 163 0 _).trans (by kernel_rfl)
theorem C163(x0:DV):zB 163 [x0] =
 ifO (zS (zH EE 6) [88] [x0])
 ((L163_0a (((List.length (elems (nth (flds x0) 0))):Nat):Int)))
 (none) :=
 (zM (f:=163) (by kernel_rfl) (by kernel_rfl) (by kernel_rfl) [x0]).trans (by kernel_rfl)
def S162_0a(v0:DV)(v1 v2:List DV)(v3 v4 v5:Int):St :=
 zx 79 [(0,(.d (.dp v0))),(1,(.d (.sl 1 v1))),(2,(.d (.sl 1 v2))),(3,(.d (eI v3))),(8,(.ptr 8 2 0 [])),(10,(.ptr 10 2 0 [])),(11,(.d (.bool false))),(25,(.d (.sl 1 v1))),(26,(.d (eI v4))),(27,(.d (eI v5)))] [(8,(.mk false (.dc 2 [(.agg 1 [.nl,(eI 0)])]))),(10,(.mk false (.dc 2 [(.agg 1 [.nl,(eI 0)])])))]
noncomputable def q0(v0:DV)(v1 v2:List DV)(v3 v4 v5:Int):Option CR:=goQ 162 0 (S162_0a v0 v1 v2 v3 v4 v5)
def S162_1a(v0:DV)(v1 v2:List DV)(v3 v4 v5 v6 v7 v8:Int):St :=
 zx 79 [(0,(.d (.dp v0))),(1,(.d (.sl 1 v1))),(2,(.d (.sl 1 v2))),(3,(.d (eI v3))),(8,(.ptr 8 2 0 [])),(10,(.ptr 10 2 0 [])),(11,(.d (.bool false))),(12,(.d (eI v4))),(13,(.d (eI v5))),(25,(.d (.sl 1 v1))),(26,(.d (eI v6))),(27,(.d (eI v4))),(32,(.d (.sl 1 v2))),(33,(.d (eI v7))),(34,(.d (eI v8)))] [(8,(.mk false (.dc 2 [(.agg 1 [.nl,(eI 0)])]))),(10,(.mk false (.dc 2 [(.agg 1 [.nl,(eI 0)])])))]
noncomputable def zFa(v0:DV)(v1 v2:List DV)(v3 v4 v5 v6 v7 v8:Int):Option CR:=goQ 162 1 (S162_1a v0 v1 v2 v3 v4 v5 v6 v7 v8)
def S162_0b(v0:DV)(v1 v2:List DV)(v3 v4 v5:Int)(v6:List DV)(v7:Int):St :=
 zx 79 [(0,(.d (.dp v0))),(1,(.d (.sl 1 v1))),(2,(.d (.sl 1 v2))),(3,(.d (eI v3))),(8,(.ptr 8 2 0 [])),(10,(.ptr 10 2 0 [])),(11,(.d (.bool true))),(25,(.d (.sl 1 v1))),(26,(.d (eI v4))),(27,(.d (eI v5)))] [(8,(.mk false (.dc 2 [(.agg 1 [.nl,(eI 0)])]))),(10,(.mk false (.dc 2 [(.agg 1 [(.sl 1 v6),(eI v7)])])))]
noncomputable def JC(v0:DV)(v1 v2:List DV)(v3 v4 v5:Int)(v6:List DV)(v7:Int):Option CR:=goQ 162 0 (S162_0b v0 v1 v2 v3 v4 v5 v6 v7)
def S162_1b(v0:DV)(v1 v2:List DV)(v3 v4 v5 v6 v7 v8:Int)(v9:List DV)(v10:Int):St :=
 zx 79 [(0,(.d (.dp v0))),(1,(.d (.sl 1 v1))),(2,(.d (.sl 1 v2))),(3,(.d (eI v3))),(8,(.ptr 8 2 0 [])),(10,(.ptr 10 2 0 [])),(11,(.d (.bool true))),(12,(.d (eI v4))),(13,(.d (eI v5))),(25,(.d (.sl 1 v1))),(26,(.d (eI v6))),(27,(.d (eI v4))),(32,(.d (.sl 1 v2))),(33,(.d (eI v7))),(34,(.d (eI v8)))] [(8,(.mk false (.dc 2 [(.agg 1 [.nl,(eI 0)])]))),(10,(.mk false (.dc 2 [(.agg 1 [(.sl 1 v9),(eI v10)])])))]
noncomputable def zFY(v0:DV)(v1 v2:List DV)(v3 v4 v5 v6 v7 v8:Int)(v9:List DV)(v10:Int):Option CR:=goQ 162 1 (S162_1b v0 v1 v2 v3 v4 v5 v6 v7 v8 v9 v10)
theorem zBw(v0:DV)(v1 v2:List DV)(v3 v4 v5:Int):q0 v0 v1 v2 v3 v4 v5 =
 ifO (decide (v5<v4))
 (ifO (decide (((0:Int)<=v5)/\(v5<(((List.length v1):Nat):Int))))
 (ifO (zH EE 6 3 (nth v1 (Int.toNat v5)))
 ((zFa v0 v1 v2 v3 v5 (zC (nth v1 (Int.toNat v5))) v4 (((List.length v2):Nat):Int) (0:Int)))
 (none))
 (none))
 (some (.val (.tup [(.agg 1 [(.sl 1 []),(eI 0)]),(.bool false)]))) :=
 (zk 162 0 _).trans (by kernel_rfl)
theorem zFZ(v0:DV)(v1 v2:List DV)(v3 v4 v5 v6 v7 v8:Int):zFa v0 v1 v2 v3 v4 v5 v6 v7 v8 =
 ifO (decide (v8<v7))
 (ifO (decide (((0:Int)<=v8)/\(v8<(((List.length v2):Nat):Int))))
 (ifO (zH EE 6 3 (nth v2 (Int.toNat v8)))
 (ifO (jQ 16 2 v0)
 (ifO (decide ((0:Int)<=(zC (nth v2 (Int.toNat v8)))))
 (ifO (jQ 15 (Int.toNat (zC (nth v2 (Int.toNat v8)))) (nth (flds v0) 2))
 (ifO (decide ((0:Int)<=v5))
 (ifO (jQ 14 (Int.toNat v5) (nth (flds (nth (flds v0) 2)) (Int.toNat (zC (nth v2 (Int.toNat v8))))))
 (ifO (zH EE 6 4 (nth (flds (nth (flds (nth (flds v0) 2)) (Int.toNat (zC (nth v2 (Int.toNat v8)))))) (Int.toNat v5)))
 (ifO (YI (nth (flds (nth (flds (nth (flds v0) 2)) (Int.toNat (zC (nth v2 (Int.toNat v8)))))) (Int.toNat v5)))
 ((q0 v0 v1 v2 v3 v6 (IntKind.wrap .i64 (v4+(1:Int)))))
 ((zFa v0 v1 v2 v3 v4 v5 v6 v7 (IntKind.wrap .i64 (v8+(1:Int))))))
 (none))
 (none))
 (none))
 (none))
 (none))
 (none))
 (none))
 (none))
 (ifO (decide ((0:Int)<=(IntKind.wrap .i64 (v4+(1:Int)))))
 (ifO (decide (((Int.toNat (IntKind.wrap .i64 (v4+(1:Int))))<=(List.length v1))/\((List.length v1)<=(List.length v1))))
 (zI (zB 243 [(.sl 1 v2)])
 (λr3=>ifO (isNl r3)
 (zI (zB 162 [(.dp v0),(.sl 1 (List.drop (Int.toNat (IntKind.wrap .i64 (v4+(1:Int)))) (List.take (List.length v1) v1))),(.sl 1 [(eI v5)]),(eI (IntKind.wrap .i64 (v3 - (1:Int))))])
 (λr4=>ifO ((DV.isTup r4) && (zS (zH EE 6) [266,4] (tups r4)))
 (ifO (YI (nth (tups r4) 1))
 ((JC v0 v1 v2 v3 v6 (IntKind.wrap .i64 (v4+(1:Int))) (elems (nth (flds (nth (tups r4) 0)) 0)) (zC (nth (flds (nth (tups r4) 0)) 1))))
 ((q0 v0 v1 v2 v3 v6 (IntKind.wrap .i64 (v4+(1:Int))))))
 (none))
 (λ_ _=>none))
 (none))
 (λs7 l8=>ifO (s7 == 1)
 (ifO (decide ((List.length l8)=(List.length l8)))
 (ifO (decide ((((2 * ((List.length l8)+1))+200) * 8)<=281474976710656))
 (ifO (decide ((0+(List.length (l8++[(eI v5)])))<=(List.length (l8++[(eI v5)]))))
 (zI (zB 162 [(.dp v0),(.sl 1 (List.drop (Int.toNat (IntKind.wrap .i64 (v4+(1:Int)))) (List.take (List.length v1) v1))),(.sl 1 (List.take (List.length (l8++[(eI v5)])) (List.drop 0 (l8++[(eI v5)])))),(eI (IntKind.wrap .i64 (v3 - (1:Int))))])
 (λr9=>ifO ((DV.isTup r9) && (zS (zH EE 6) [266,4] (tups r9)))
 (ifO (YI (nth (tups r9) 1))
 ((JC v0 v1 v2 v3 v6 (IntKind.wrap .i64 (v4+(1:Int))) (elems (nth (flds (nth (tups r9) 0)) 0)) (zC (nth (flds (nth (tups r9) 0)) 1))))
 ((q0 v0 v1 v2 v3 v6 (IntKind.wrap .i64 (v4+(1:Int))))))
 (none))
 (λ_ _=>none))
 (none))
 (none))
 (none))
 (none)))
 (none))
 (none)) :=
 (zk 162 1 _).trans (by kernel_rfl)
theorem zFb(v0:DV)(v1 v2:List DV)(v3 v4 v5:Int)(v6:List DV)(v7:Int):JC v0 v1 v2 v3 v4 v5 v6 v7 =
 ifO (decide (v5<v4))
 (ifO (decide (((0:Int)<=v5)/\(v5<(((List.length v1):Nat):Int))))
 (ifO (zH EE 6 3 (nth v1 (Int.toNat v5)))
 ((zFY v0 v1 v2 v3 v5 (zC (nth v1 (Int.toNat v5))) v4 (((List.length v2):Nat):Int) (0:Int) v6 v7))
 (none))
 (none))
 (some (.val (.tup [(.agg 1 [(.sl 1 v6),(eI v7)]),(.bool true)]))) :=
 (zk 162 0 _).trans (by kernel_rfl)
theorem zFX(v0:DV)(v1 v2:List DV)(v3 v4 v5 v6 v7 v8:Int)(v9:List DV)(v10:Int):zFY v0 v1 v2 v3 v4 v5 v6 v7 v8 v9 v10 =
 ifO (decide (v8<v7))
 (ifO (decide (((0:Int)<=v8)/\(v8<(((List.length v2):Nat):Int))))
 (ifO (zH EE 6 3 (nth v2 (Int.toNat v8)))
 (ifO (jQ 16 2 v0)
 (ifO (decide ((0:Int)<=(zC (nth v2 (Int.toNat v8)))))
 (ifO (jQ 15 (Int.toNat (zC (nth v2 (Int.toNat v8)))) (nth (flds v0) 2))
 (ifO (decide ((0:Int)<=v5))
 (ifO (jQ 14 (Int.toNat v5) (nth (flds (nth (flds v0) 2)) (Int.toNat (zC (nth v2 (Int.toNat v8))))))
 (ifO (zH EE 6 4 (nth (flds (nth (flds (nth (flds v0) 2)) (Int.toNat (zC (nth v2 (Int.toNat v8)))))) (Int.toNat v5)))
 (ifO (YI (nth (flds (nth (flds (nth (flds v0) 2)) (Int.toNat (zC (nth v2 (Int.toNat v8)))))) (Int.toNat v5)))
 ((JC v0 v1 v2 v3 v6 (IntKind.wrap .i64 (v4+(1:Int))) v9 v10))
 ((zFY v0 v1 v2 v3 v4 v5 v6 v7 (IntKind.wrap .i64 (v8+(1:Int))) v9 v10)))
 (none))
 (none))
 (none))
 (none))
 (none))
 (none))
 (none))
 (none))
 (ifO (decide ((0:Int)<=(IntKind.wrap .i64 (v4+(1:Int)))))
 (ifO (decide (((Int.toNat (IntKind.wrap .i64 (v4+(1:Int))))<=(List.length v1))/\((List.length v1)<=(List.length v1))))
 (zI (zB 243 [(.sl 1 v2)])
 (λr12=>ifO (isNl r12)
 (zI (zB 162 [(.dp v0),(.sl 1 (List.drop (Int.toNat (IntKind.wrap .i64 (v4+(1:Int)))) (List.take (List.length v1) v1))),(.sl 1 [(eI v5)]),(eI (IntKind.wrap .i64 (v3 - (1:Int))))])
 (λr13=>ifO ((DV.isTup r13) && (zS (zH EE 6) [266,4] (tups r13)))
 (ifO (YI (nth (tups r13) 1))
 (ifO (decide ((zC (nth (flds (nth (tups r13) 0)) 1))>v10))
 ((JC v0 v1 v2 v3 v6 (IntKind.wrap .i64 (v4+(1:Int))) (elems (nth (flds (nth (tups r13) 0)) 0)) (zC (nth (flds (nth (tups r13) 0)) 1))))
 ((JC v0 v1 v2 v3 v6 (IntKind.wrap .i64 (v4+(1:Int))) v9 v10)))
 ((JC v0 v1 v2 v3 v6 (IntKind.wrap .i64 (v4+(1:Int))) v9 v10)))
 (none))
 (λ_ _=>none))
 (none))
 (λs16 l17=>ifO (s16 == 1)
 (ifO (decide ((List.length l17)=(List.length l17)))
 (ifO (decide ((((2 * ((List.length l17)+1))+200) * 8)<=281474976710656))
 (ifO (decide ((0+(List.length (l17++[(eI v5)])))<=(List.length (l17++[(eI v5)]))))
 (zI (zB 162 [(.dp v0),(.sl 1 (List.drop (Int.toNat (IntKind.wrap .i64 (v4+(1:Int)))) (List.take (List.length v1) v1))),(.sl 1 (List.take (List.length (l17++[(eI v5)])) (List.drop 0 (l17++[(eI v5)])))),(eI (IntKind.wrap .i64 (v3 - (1:Int))))])
 (λr18=>ifO ((DV.isTup r18) && (zS (zH EE 6) [266,4] (tups r18)))
 (ifO (YI (nth (tups r18) 1))
 (ifO (decide ((zC (nth (flds (nth (tups r18) 0)) 1))>v10))
 ((JC v0 v1 v2 v3 v6 (IntKind.wrap .i64 (v4+(1:Int))) (elems (nth (flds (nth (tups r18) 0)) 0)) (zC (nth (flds (nth (tups r18) 0)) 1))))
 ((JC v0 v1 v2 v3 v6 (IntKind.wrap .i64 (v4+(1:Int))) v9 v10)))
 ((JC v0 v1 v2 v3 v6 (IntKind.wrap .i64 (v4+(1:Int))) v9 v10)))
 (none))
 (λ_ _=>none))
 (none))
 (none))
 (none))
 (none)))
 (none))
 (none)) :=
 (zk 162 1 _).trans (by kernel_rfl)
theorem C162(x0 x1 x2 x3:DV):zB 162 [x0,x1,x2,x3] =
 ifO (zS (zH EE 6) [268,25,25,3] [x0,x1,x2,x3])
 (ifO ((zC x3) == (0:Int))
 (zI (zB 242 [(.dp (undp x0)),(.sl 1 (elems x2))])
 (λr0=>ifO (zH EE 6 3 r0)
 (some (.val (.tup [(.agg 1 [(.sl 1 (elems x2)),(eI (zC r0))]),(.bool true)])))
 (none))
 (λ_ _=>none))
 ((q0 (undp x0) (elems x1) (elems x2) (zC x3) (((List.length (elems x1)):Nat):Int) (0:Int))))
 (none) :=
 (zM (f:=162) (by kernel_rfl) (by kernel_rfl) (by kernel_rfl) [x0,x1,x2,x3]).trans (by kernel_rfl)
theorem C242(x0 x1:DV):zB 242 [x0,x1] =
 ifO (zS (zH EE 6) [268,25] [x0,x1])
 (ifO (jQ 16 1 (undp x0))
 (ifO (zH EE 6 246 (nth (flds (undp x0)) 1))
 (zI (zB 283 [(.sl 1 (elems x1)),(.fn 284 [] [(.dp (.dp (undp x0)))])])
 (λr0=>ifO (zH EE 6 81 r0)
 (zI (zB 145 [(.agg 13 [(.agg 0 [(.str (ze (nth (flds (nth (flds (nth (flds (undp x0)) 1)) 0)) 0))),(.sl 1 (elems (nth (flds (nth (flds (nth (flds (undp x0)) 1)) 0)) 1))),(.sl 1 (elems (nth (flds (nth (flds (nth (flds (undp x0)) 1)) 0)) 2)))]),(.agg 1 [(.sl 1 (elems (nth (flds (nth (flds (nth (flds (undp x0)) 1)) 1)) 0))),(eI (zC (nth (flds (nth (flds (nth (flds (undp x0)) 1)) 1)) 1)))]),(.agg 3 (flds (nth (flds (nth (flds (undp x0)) 1)) 2)))]),(.sl 2 (elems r0)),(eI 0)])
 (λr1=>ifO (zH EE 6 3 r1)
 (some (.val (eI (zC r1))))
 (none))
 (λ_ _=>none))
 (none))
 (λ_ _=>none))
 (none))
 (none))
 (none) :=
 (zM (f:=242) (by kernel_rfl) (by kernel_rfl) (by kernel_rfl) [x0,x1]).trans (by kernel_rfl)
def S283_0a(v0:Nat)(v1 v2 v3:List DV)(v4:Int):St :=
 zx 22 [(1,(.d (.fn v0 v1 v2))),(5,(.d .nl)),(8,(.d (.sl 1 v3))),(9,(.d (eI v4))),(10,(.d (eI 0)))] []
noncomputable def L283_0a(v0:Nat)(v1 v2 v3:List DV)(v4:Int):Option CR:=goQ 283 0 (S283_0a v0 v1 v2 v3 v4)
def S283_0b(v0:Nat)(v1 v2 v3 v4:List DV)(v5 v6:Int):St :=
 zx 22 [(1,(.d (.fn v0 v1 v2))),(5,(.own 19 0 (List.length v3) 2)),(8,(.d (.sl 1 v4))),(9,(.d (eI v5))),(10,(.d (eI v6)))] [(19,(.mk false (.dc 2 v3)))]
noncomputable def zFF(v0:Nat)(v1 v2 v3 v4:List DV)(v5 v6:Int):Option CR:=goQ 283 0 (S283_0b v0 v1 v2 v3 v4 v5 v6)
theorem L283_0a_eq(v0:Nat)(v1 v2 v3:List DV)(v4:Int):L283_0a v0 v1 v2 v3 v4 =
 ifO (decide ((0:Int)<v4))
 (ifO (decide (((0:Int)<=(0:Int))/\((0:Int)<(((List.length v3):Nat):Int))))
 (ifO (zH EE 6 3 (nth v3 0))
 (zI (zB v0 (zu EE v0 ((v1++[(eI (zC (nth v3 0)))])++v2)))
 (λr0=>ifO (zH EE 6 141 r0)
 ((zFF v0 v1 v2 [(.agg 1 [(eI (zC (nth (flds r0) 0))),(eI (zC (nth (flds r0) 1)))])] v3 v4 (1:Int)))
 (none))
 (λ_ _=>none))
 (none))
 (none))
 (some (.val (.sl 2 []))) :=
 (zk 283 0 _).trans (by kernel_rfl)
theorem zFE(v0:Nat)(v1 v2 v3 v4:List DV)(v5 v6:Int):zFF v0 v1 v2 v3 v4 v5 v6 =
 ifO (decide (v6<v5))
 (ifO (decide (((0:Int)<=v6)/\(v6<(((List.length v4):Nat):Int))))
 (ifO (zH EE 6 3 (nth v4 (Int.toNat v6)))
 (zI (zB v0 (zu EE v0 ((v1++[(eI (zC (nth v4 (Int.toNat v6))))])++v2)))
 (λr3=>ifO (zH EE 6 141 r3)
 (ifO (decide ((List.length v3)=(List.length v3)))
 (ifO (decide ((((2 * ((List.length v3)+1))+200) * 16)<=281474976710656))
 ((zFF v0 v1 v2 (v3++[(.agg 1 [(eI (zC (nth (flds r3) 0))),(eI (zC (nth (flds r3) 1)))])]) v4 v5 (IntKind.wrap .i64 (v6+(1:Int)))))
 (none))
 (none))
 (none))
 (λ_ _=>none))
 (none))
 (none))
 (ifO (decide ((0+(List.length v3))<=(List.length v3)))
 (some (.val (.sl 2 (List.take (List.length v3) (List.drop 0 v3)))))
 (none)) :=
 (zk 283 0 _).trans (by kernel_rfl)
theorem C283(x0 x1:DV):zB 283 [x0,x1] =
 ifO (zS (zH EE 6) [25,309] [x0,x1])
 ((L283_0a (zEv x1) (fnA x1) (fnC x1) (elems x0) (((List.length (elems x0)):Nat):Int)))
 (none) :=
 (zM (f:=283) (by kernel_rfl) (by kernel_rfl) (by kernel_rfl) [x0,x1]).trans (by kernel_rfl)
theorem C284(x0 x1:DV):zB 284 [x0,x1] =
 ifO (((zS (zH EE 6) [3] [x0]) && true) && (List.all [x1] zIC))
 (ifO (zH EE 6 268 (undp x1))
 (ifO (jQ 16 0 (undp (undp x1)))
 (ifO (jQ 6 0 (nth (flds (undp (undp x1))) 0))
 (ifO (zH EE 6 81 (nth (flds (nth (flds (undp (undp x1))) 0)) 0))
 (ifO (decide (((0:Int)<=(zC x0))/\((zC x0)<(((List.length (elems (nth (flds (nth (flds (undp (undp x1))) 0)) 0))):Nat):Int))))
 (ifO (zH EE 6 141 (nth (elems (nth (flds (nth (flds (undp (undp x1))) 0)) 0)) (Int.toNat (zC x0))))
 (some (.val (.agg 1 [(eI (zC (nth (flds (nth (elems (nth (flds (nth (flds (undp (undp x1))) 0)) 0)) (Int.toNat (zC x0)))) 0))),(eI (zC (nth (flds (nth (elems (nth (flds (nth (flds (undp (undp x1))) 0)) 0)) (Int.toNat (zC x0)))) 1)))])))
 (none))
 (none))
 (none))
 (none))
 (none))
 (none))
 (none) :=
 (zM (f:=284) (by kernel_rfl) (by kernel_rfl) (by kernel_rfl) [x0,x1]).trans (by kernel_rfl)
theorem C108(x0:DV):zB 108 [x0] =
 ifO (zS (zH EE 6) [60] [x0])
 (zI (zB 114 [(.agg 1 [(.sl 1 (elems (nth (flds x0) 0))),(eI (zC (nth (flds x0) 1)))])])
 (λr0=>ifO (zH EE 6 46 r0)
 (ifO (bne (zC r0) 0)
 (some (.val (.tup [(.str (bs [])),(eI (zC r0))])))
 (ifO (decide ((((2 * (1+(List.length (elems (nth (flds x0) 0)))))+200) * 8)<=281474976710656))
 (ifO (decide ((0+(List.length ([(eI (zC (nth (flds x0) 1)))]++(elems (nth (flds x0) 0)))))<=(List.length ([(eI (zC (nth (flds x0) 1)))]++(elems (nth (flds x0) 0))))))
 (zI (zB 209 [(.sl 1 (List.take (List.length ([(eI (zC (nth (flds x0) 1)))]++(elems (nth (flds x0) 0)))) (List.drop 0 ([(eI (zC (nth (flds x0) 1)))]++(elems (nth (flds x0) 0)))))),(.fn 210 [] [])])
 (λr1=>ifO (zH EE 6 173 r1)
 (zI (zB 208 [(.sl 1 (elems r1)),(.str (bs [32]))])
 (λr2=>ifO (zH EE 6 9 r2)
 (some (.val (.tup [(.str (ze r2)),(eI 0)])))
 (none))
 (λ_ _=>none))
 (none))
 (λ_ _=>none))
 (none))
 (none)))
 (none))
 (λ_ _=>none))
 (none) :=
 (zM (f:=108) (by kernel_rfl) (by kernel_rfl) (by kernel_rfl) [x0]).trans (by kernel_rfl)
def S209_0a(v0:Nat)(v1 v2 v3:List DV)(v4:Int):St :=
 zx 22 [(1,(.d (.fn v0 v1 v2))),(5,(.d .nl)),(8,(.d (.sl 1 v3))),(9,(.d (eI v4))),(10,(.d (eI 0)))] []
noncomputable def L209_0a(v0:Nat)(v1 v2 v3:List DV)(v4:Int):Option CR:=goQ 209 0 (S209_0a v0 v1 v2 v3 v4)
def S209_0b(v0:Nat)(v1 v2 v3 v4:List DV)(v5 v6:Int):St :=
 zx 22 [(1,(.d (.fn v0 v1 v2))),(5,(.own 19 0 (List.length v3) 1)),(8,(.d (.sl 1 v4))),(9,(.d (eI v5))),(10,(.d (eI v6)))] [(19,(.mk false (.dc 1 v3)))]
noncomputable def zFO(v0:Nat)(v1 v2 v3 v4:List DV)(v5 v6:Int):Option CR:=goQ 209 0 (S209_0b v0 v1 v2 v3 v4 v5 v6)
theorem L209_0a_eq(v0:Nat)(v1 v2 v3:List DV)(v4:Int):L209_0a v0 v1 v2 v3 v4 =
 ifO (decide ((0:Int)<v4))
 (ifO (decide (((0:Int)<=(0:Int))/\((0:Int)<(((List.length v3):Nat):Int))))
 (ifO (zH EE 6 3 (nth v3 0))
 (zI (zB v0 (zu EE v0 ((v1++[(eI (zC (nth v3 0)))])++v2)))
 (λr0=>ifO (zH EE 6 9 r0)
 ((zFO v0 v1 v2 [(.str (ze r0))] v3 v4 (1:Int)))
 (none))
 (λ_ _=>none))
 (none))
 (none))
 (some (.val (.sl 1 []))) :=
 (zk 209 0 _).trans (by kernel_rfl)
theorem zFN(v0:Nat)(v1 v2 v3 v4:List DV)(v5 v6:Int):zFO v0 v1 v2 v3 v4 v5 v6 =
 ifO (decide (v6<v5))
 (ifO (decide (((0:Int)<=v6)/\(v6<(((List.length v4):Nat):Int))))
 (ifO (zH EE 6 3 (nth v4 (Int.toNat v6)))
 (zI (zB v0 (zu EE v0 ((v1++[(eI (zC (nth v4 (Int.toNat v6))))])++v2)))
 (λr3=>ifO (zH EE 6 9 r3)
 (ifO (decide ((List.length v3)=(List.length v3)))
 (ifO (decide ((((2 * ((List.length v3)+1))+200) * 16)<=281474976710656))
 ((zFO v0 v1 v2 (v3++[(.str (ze r3))]) v4 v5 (IntKind.wrap .i64 (v6+(1:Int)))))
 (none))
 (none))
 (none))
 (λ_ _=>none))
 (none))
 (none))
 (ifO (decide ((0+(List.length v3))<=(List.length v3)))
 (some (.val (.sl 1 (List.take (List.length v3) (List.drop 0 v3)))))
 (none)) :=
 (zk 209 0 _).trans (by kernel_rfl)
theorem C209(x0 x1:DV):zB 209 [x0,x1] =
 ifO (zS (zH EE 6) [25,280] [x0,x1])
 ((L209_0a (zEv x1) (fnA x1) (fnC x1) (elems x0) (((List.length (elems x0)):Nat):Int)))
 (none) :=
 (zM (f:=209) (by kernel_rfl) (by kernel_rfl) (by kernel_rfl) [x0,x1]).trans (by kernel_rfl)
end Go.Am
namespace Go.Am
open Go.Proofs
open Go
abbrev Ch:=Option (List Nat×Int)
def pick:Ch->Ch->Ch
 | none,b=>b
 | some x,none=>some x
 | some x,some y=>if y.2>x.2 then some y else some x
theorem zC7(a:Ch):pick a none=a:=by cases a <;> rfl
theorem pick_assoc(a b c:Ch):pick (pick a b) c=pick a (pick b c):=by
 cases a with
 | none=>rfl
 | some x =>
  cases b with
  | none=>rfl
  | some y =>
   cases c with
   | none=>rw[zC7,zC7]
   | some z =>
    simp only[pick];by_cases h1:y.2>x.2
    ·by_cases h2:z.2>y.2
     ·rw[if_pos h1,if_pos h2];show(if z.2>y.2 then some z else some y)=if z.2>x.2 then some z else some x
      rw[if_pos h2,if_pos (by omega)]
     ·rw[if_pos h1,if_neg h2];show(if z.2>y.2 then some z else some y)=if y.2>x.2 then some y else some x
      simp only[h1,h2,if_true,if_false]
    ·by_cases h2:z.2>y.2
     ·rw[if_neg h1,if_pos h2]
     ·rw[if_neg h1,if_neg h2];show(if z.2>x.2 then some z else some x)=if y.2>x.2 then some y else some x
      rw[if_neg h1,if_neg (by omega)]
section
variable(en:List Nat->Int)
def JL(near:Nat->Nat->Bool):List Nat->List Nat->Nat->Ch
 | _,taken,0=>some (taken,en taken)
 | [],_,_+1=>none
 | i :: l,taken,n+1=>pick (if taken.any (λt=>near t i) then none else JL near l (taken++[i]) n) (JL near l taken (n+1))
theorem pick_some{a b:Ch}{r:List Nat×Int}(h:pick a b=some r):a=some r\/b=some r:=by
 cases a with
 | none=>exact .inr h
 | some x =>
  cases b with
  | none=>exact .inl h
  | some y =>
   simp only[pick] at h;split at h
   ·exact .inr h
   ·exact .inl h
end
def IsMax(S:Int->Prop)(o:Option Int):Prop:=match o with | none=>∀x,¬S x | some m=>S m/\∀x,S x->x<=m
theorem IsMax.unique{S:Int->Prop}{a b:Option Int}(h:IsMax S a)(k:IsMax S b):a=b:=by
 cases a with
 | none =>
  cases b with
  | none=>rfl
  | some y=>exact absurd k.1 (h y)
 | some x =>
  cases b with
  | none=>exact absurd h.1 (k x)
  | some y =>
   have h1:=h.2 y k.1;have h2:=k.2 x h.1;have:x=y:=by omega
   rw[this]
end Go.Am
namespace Go.Am
open Go.Proofs
open Go
def jT(p:Pn)(j i:Nat):Bool :=
 decide (i<p.ps.length/\j<p.ps.length/\i≠j) && decide (js (p.ps.getD i default) (p.ps.getD j default)<p.least * p.least)
abbrev eNear(p:Pn):DV:=.agg 15 ((List.range 8).map λj=>.agg 14 ((List.range 8).map λi=>.bool (jT p j i)))
abbrev eSe(p:Pn):DV:=.agg 16 [ePn p,eMd p.w p.c p.r,eNear p]
def placeS(prev:List Pt)(p:Pt):Int:=zO [ptE p,if prev.any (λq=>decide (p=q)) then 9 else 0]
def J2:List Pt->List Pt->Int
 | _,[]=>0
 | prev,p :: r=>if placeS prev p=0 then J2 (prev++[p]) r else placeS prev p
def restE(p:Pn):Int:=zO [zZ p.least 1 1000,wakeE p.w,YJ p.c,Qv p.r]
def planE(p:Pn):Int:=if 64<p.ps.length then 5 else if J2 [] p.ps=0 then restE p else J2 [] p.ps
def fewE(p:Pn):Int:=zO [planE p,if 8<p.ps.length then 23 else 0]
def bestE(p:Pn)(n:Int):Int:=zO [fewE p,zZ n 0 p.ps.length]
def enP(p:Pn)(l:List Nat):Int:=Jl p.w p.c p.r (l.map λi=>p.ps.getD i default) 0
class KnS[OO]:Prop where
 clone:∀l:List Int,l.length<=100000->zB 243 [.sl 1 (l.map eI)]=some (zGW l)
 search:∀p:Pn,zv p.r->p.ps.length<=8->(∀q∈p.ps,YG q)->1<=p.least->p.least<=1000->zB 161 [ePn p]=some (.val (.dp (eSe p)))
 itoa:∀n:Int,-9223372036854775808<=n->n<=9223372036854775807->zB 210 [eI n]=some (.val (.str ⟨(Lib.itoa n).toArray⟩))
 join:∀(l:List ByteArray) (s:ByteArray),l.length<=1000->(∀x∈l,x.size<=1000)->s.size<=1000->zB 208 [.sl 1 (l.map .str),.str s]=some (.val (.str ⟨(Lib.join (l.map (·.data.toList)) s.data.toList).toArray⟩))
variable[OO]
theorem c167(a b:Pt):zB 167 [ePt b,.dp (ePt a)]=some (.val (.bool (decide (a=b)))):=by
 rw[C167];have e:Y0 EE 141 (ePt a) (ePt b)=some (decide (a=b)):=by
  refine(show Y0 EE 141 (.agg 1 [eI a.x,eI a.y]) (.agg 1 [eI b.x,eI b.y])=some ((a.x == b.x) && ((a.y == b.y) && true)) by kernel_rfl).trans ?_
  obtain⟨ax,ay⟩:=a;obtain⟨bx,by'⟩:=b
  by_cases h1:ax=bx <;> by_cases h2:ay=by' <;> simp[h1,h2]
 simp only[zL,zN,h141,Bool.and_self,zF,qt,zV,zY,zb,zK,m1,e,Option.getD_some];simp[zIC]
theorem l244(x:Pt)(l:List Pt)(hl:l.length<=100000):∀i,i<=l.length->∃k:Int,zCw (l.map ePt) 167 [] [.dp (ePt x)] l.length i=some (.val (eI k))/\decide (k>=0)=(l.drop i).any λq=>decide (x=q):=by
 apply down (P:=λi=>∃k:Int,zCw (l.map ePt) 167 [] [.dp (ePt x)] l.length i=some (.val (eI k))/\decide (k>=0)=(l.drop i).any λq=>decide (x=q))
 ·rw[zFH];exact⟨-1,by simp,by simp⟩
 ·intro i hi ih;obtain⟨k,h1,h2⟩:=ih;have e1:(i:Int)<l.length:=by omega
  have e0:(0:Int)<=(i:Int):=by omega
  have hc:zB 167 (zu EE 167 [ePt l[i],.dp (ePt x)])=some (.val (.bool (decide (x=l[i])))):=(congrArg (zB 167) (show zu EE 167 [ePt l[i],.dp (ePt x)]=[ePt l[i],.dp (ePt x)] by kernel_rfl)).trans (c167 x l[i])
  rw[zFH,zi l i hi];simp only[zX];simp only[List.length_map,e1,e0,and_self,if_true,Int.toNat_natCast,zP _ l i hi,h141,zF,zV,zY,zb,zK,List.nil_append,List.cons_append,hc,zJ,h4,z8];rw[wr ((i:Int)+1) (by omega),show((i:Int)+1)=((i+1:Nat):Int) by omega,List.any_cons]
  by_cases hx:x=l[i]
  ·exact⟨i,by simp[hx],by simp[hx]⟩
  ·exact⟨k,by simp only[decide_eq_false hx,zT];exact h1,by rw[h2,decide_eq_false hx,Bool.false_or]⟩
theorem c166(x:Pt)(l:List Pt)(hl:l.length<=100000):zB 166 [.sl 2 (l.map ePt),.fn 167 [] [.dp (ePt x)]]=some (.val (.bool (l.any λq=>decide (x=q)))):=by
 obtain⟨k,h1,h2⟩:=l244 x l hl 0 (Nat.zero_le _);have h3:zB 244 [.sl 2 (l.map ePt),.fn 167 [] [.dp (ePt x)]]=some (.val (eI k)):=by rw[C244];simp only[zL,zN,h81,h275,Bool.and_self,zF,zQ,Yx,Qb,Qa,List.length_map];exact h1
 rw[C166];simp only[zL,zN,h81,h275,Bool.and_self,zF,zQ,Yx,Qb,Qa,h3,zJ,Am.h3,zK];rw[List.drop_zero] at h2;exact congrArg (λb=>some (CR.val (DV.bool b))) h2
theorem site0(name:ByteArray)(hn:jO name=true)(least:Int):jb ⟨name,least,[]⟩=zZ least 1 1000:=by
 unfold jb;simp only[hn,if_true,List.length_nil,JW];rcases zF4 least 1 1000 with h | h <;> simp[h,zO]
theorem name_plan:jO (bs [112,108,97,110])=true:=by decide
theorem l49(p:Pn)(hr:zv p.r)(hl:p.ps.length<=64):∀i,i<=p.ps.length->zIi (p.ps.map ePt) p.ps.length i p.least p.w.rule (p.w.d.map eI) (p.w.w.map eI) (p.c.p.map eI) p.c.cut (p.r.map jj) =
  some (.val (eI (if J2 (p.ps.take i) (p.ps.drop i)=0 then restE p else J2 (p.ps.take i) (p.ps.drop i)))):=by
 apply down
 ·rw[zHd];have hs:zB 158 [.agg 0 [.str (bs [112,108,97,110]),.int .i64 p.least,.sl 3 []]]=some (.val (eI (zZ p.least 1 1000))):=(c158 ⟨bs [112,108,97,110],p.least,[]⟩).trans (by rw[site0 _ name_plan])
  simp only[zX,Int.lt_irrefl,if_false];simp only[hs,zJ,h46,zF,zK,c75,c114,c159 p.r hr,c148_4,List.drop_length,J2,if_true];rfl
 ·intro i hi ih;have e1:(i:Int)<p.ps.length:=by omega
  have e0:(0:Int)<=(i:Int):=by omega
  have e2:i<=p.ps.length:=by omega
  have hc:=c166 p.ps[i] (p.ps.take i) (by simp;omega)
  rw[List.map_take] at hc;rw[zHd,zi p.ps i hi];simp only[zX];simp only[List.length_map,e1,e0,e2,Nat.zero_le,and_self,if_true,Int.toNat_natCast,zP _ p.ps i hi,h141,zF,zV,zY,zb,zK,List.drop_zero,hc,zJ,h4,z8,c168,h46,c169,zAP];rw[wr ((i:Int)+1) (by omega),show((i:Int)+1)=((i+1:Nat):Int) by omega,ih,J2,List.take_succ_eq_append_getElem hi]
  by_cases hz:placeS (p.ps.take i) p.ps[i]=0
  ·refine(congrArg (λb=>ifO b _ _) (bne0 hz)).trans ?_
   rw[zT,if_pos hz]
  ·refine(congrArg (λb=>ifO b _ _) (bne1 hz)).trans ?_
   rw[zF,if_neg hz,if_neg hz];rfl
theorem hPn(p:Pn)(hr:zv p.r):zH EE 6 88 (ePn p)=true:=by rw[h88];simp[hr.1]
theorem c49(p:Pn)(hr:zv p.r):zB 49 [ePn p]=some (.val (eI (planE p))):=by
 rw[C49];simp only[zX];simp only[zL,zN,hPn p hr,Bool.and_self,zF,zV,zY,zb,zq,zy,QW,zl,zK,zQ,List.length_map];unfold planE;by_cases h:64<p.ps.length
 ·rw[if_pos (by omega),if_pos h]
 ·rw[if_neg (by omega),if_neg h]
  have:=l49 p hr (by omega) 0 (Nat.zero_le _)
  simpa using this
theorem c160(p:Pn)(hr:zv p.r):zB 160 [ePn p]=some (.val (eI (fewE p))):=by
 rw[C160];simp only[zL,zN,hPn p hr,Bool.and_self,zF,zV,zY,zb,zq,zy,QW,zl,zK,zQ,List.length_map,c49 p hr,zJ,h46,c169,zAP,decide_eq_true_eq];have e:((p.ps.length:Int)>8)=(8<p.ps.length):=propext (by omega)
 simp only[e];rfl
theorem zDd:∀{l prev:List Pt},J2 prev l=0->∀p∈l,YG p
 | [],_,_,p,h=>by simp at h
 | x :: r,prev,h,p,hp=>by
  unfold J2 at h;split at h
  ·rename_i h0;rcases List.mem_cons.1 hp with rfl | hp
   ·exact(zIR _).1 (jH h0).1
   ·exact zDd h p hp
  ·rename_i h0;exact absurd h h0
structure PlanOK(P:Pn):Prop where
 v:Valid P.w P.c P.r P.ps
 l:P.ps.length<=8
 least:1<=P.least/\P.least<=1000
 go:J2 [] P.ps=0
theorem fewE_ok{p:Pn}(h:fewE p=0)(hr:zv p.r):PlanOK p:=by
 obtain⟨h1,h2⟩:=jH h;have h2:=(jH h2).1;have hl:p.ps.length<=8:=by
  rcases Nat.lt_or_ge 8 p.ps.length with hh | hh
  ·rw[if_pos hh] at h2;simp at h2
  ·exact hh
 unfold planE at h1;rw[if_neg (by omega)] at h1
 split at h1
 ·rename_i hg;obtain⟨a,b,c,d⟩:=YQ h1;exact⟨⟨(wakeE_ok b).1,(wakeE_ok b).2,(Yj c).1,hr,zF3 d,by omega,zDd hg⟩,hl,jF.1 a,hg⟩
 ·rename_i hg;exact absurd h1 hg
theorem getD_pt(l:List Pt)(i:Nat)(h:i<l.length):l.getD i default=l[i]:=by rw[List.getD_eq_getElem?_getD,List.getElem?_eq_getElem h];rfl
theorem c284(p:Pn)(i:Nat)(h:i<p.ps.length):zB 284 [eN i,.dp (.dp (eSe p))]=some (.val (ePt (p.ps.getD i default))):=by
 rw[C284,getD_pt p.ps i h];have e1:(i:Int)<p.ps.length:=by omega
 have e0:(0:Int)<=(i:Int):=by omega
 simp only[zL,zN,h3,h268,Bool.and_self,zF,qt,zV,zY,zb,zQ,h81,zK,List.length_map,e1,e0,and_self,decide_true,Int.toNat_natCast,zP _ p.ps i h,h141];simp[zIC,jQ]
theorem l283b(p:Pn)(l:List Nat)(hl:l.length<=100000)(hi:∀i∈l,i<p.ps.length):∀k,k<=l.length->zFF 284 [] [.dp (.dp (eSe p))] ((l.take k).map λi=>ePt (p.ps.getD i default)) (l.map eN) l.length k=some (.val (.sl 2 ((l.map λi=>p.ps.getD i default).map ePt))):=by
 apply down
 ·rw[zFE];simp;exact(List.take_of_length_le (by simp)).trans (by simp)
 ·intro k hk ih;have e1:(k:Int)<l.length:=by omega
  have hx:zB 284 (zu EE 284 [eN l[k],.dp (.dp (eSe p))])=some (.val (ePt (p.ps.getD l[k] default))):=(congrArg (zB 284) (show zu EE 284 [eN l[k],.dp (.dp (eSe p))]=[eN l[k],.dp (.dp (eSe p))] by kernel_rfl)).trans (c284 p l[k] (hi _ (List.getElem_mem hk)))
  have hm:min k l.length=k:=by omega
  have e2:(2 * (k+1)+200) * 16<=281474976710656:=by omega
  have e0:(0:Int)<=(k:Int):=by omega
  rw[<-ih,zFE];simp only[zX];simp only[List.length_map,List.length_take,hm,e1,e0,e2,and_self,if_true,Int.toNat_natCast,zP _ l k hk,h3,zF,zK,List.nil_append,List.cons_append,hx,zJ,h141,zV,zY,zb];rw[wr ((k:Int)+1) (by omega),List.take_succ_eq_append_getElem hk,List.map_append]
  rfl
theorem c283(p:Pn)(l:List Nat)(hl:l.length<=100000)(hi:∀i∈l,i<p.ps.length):zB 283 [.sl 1 (l.map eN),.fn 284 [] [.dp (.dp (eSe p))]]=some (.val (.sl 2 ((l.map λi=>p.ps.getD i default).map ePt))):=by
 rw[C283];simp only[zL,zN,h25,h309,Bool.and_self,zF,zQ,Yx,Qb,Qa,List.length_map];rw[L283_0a_eq];simp only[zX];by_cases h:l=[]
 ·simp[h]
 ·have h0:0<l.length:=List.length_pos_iff.2 h;have h1:=l283b p l hl hi 1 (by omega)
  have hx:zB 284 (zu EE 284 [eN l[0],.dp (.dp (eSe p))])=some (.val (ePt (p.ps.getD l[0] default))):=(congrArg (zB 284) (show zu EE 284 [eN l[0],.dp (.dp (eSe p))]=[eN l[0],.dp (.dp (eSe p))] by kernel_rfl)).trans (c284 p l[0] (hi _ (List.getElem_mem h0)))
  have e1:(0:Int)<l.length:=by omega
  rw[tk1 l h0] at h1;simp only[List.length_map,e1,Int.le_refl,and_self,if_true,zP _ l 0 h0,h3,zF,zK,List.nil_append,List.cons_append,hx,zJ,h141,zV,zY,zb];simpa using h1
theorem c242[KnW](p:Pn)(h:PlanOK p)(l:List Nat)(hl:l.length<=64)(hi:∀i∈l,i<p.ps.length):zB 242 [.dp (eSe p),.sl 1 (l.map eN)]=some (.val (eI (enP p l))):=by
 have hv:Valid p.w p.c p.r (l.map λi=>p.ps.getD i default):=⟨h.v.w,h.v.k,h.v.c,h.v.r,h.v.q,by simpa using hl,λq hq=>by
  obtain⟨i,hi',rfl⟩:=List.mem_map.1 hq;rw[getD_pt p.ps i (hi i hi')];exact h.v.p _ (List.getElem_mem _)⟩
 rw[C242];simp only[zL,zN,h268,h25,Bool.and_self,zF,qt,zV,zY,zb,zq,zQ,hMd _ _ _ h.v.r,c283 p l (by omega) hi,zJ,h81,zl,zK,c145 hv 0 (by omega),h3]
 simp[jQ,enP]
def eR:Ch->CR
 | none=>.val (.tup [.agg 1 [.sl 1 [],eI 0],.bool false])
 | some (c,e)=>.val (.tup [.agg 1 [.sl 1 (c.map eN),eI e],.bool true])
theorem map_eN'(l:List Nat):l.map eN=(l.map (Nat.cast:Nat->Int)).map eI:=by rw[List.map_map];rfl
section
variable[KnW][KnS](p:Pn)(h:PlanOK p)
include h
theorem zJf(t i:Nat)(ht:t<8)(hi:i<8):nth (flds (nth (flds (nth (flds (eSe p)) 2)) t)) i=.bool (jT p t i):=by
 have e1:nth (flds (nth (flds (eSe p)) 2)) t=.agg 14 ((List.range 8).map λi=>.bool (jT p t i)):=by
  show nth ((List.range 8).map λj=>.agg 14 ((List.range 8).map λi=>.bool (jT p j i))) t=_
  rw[zP _ _ t (by simpa using ht),List.getElem_range]
 rw[e1,zV,zP _ _ i (by simpa using hi),List.getElem_range]
def Rec(p:Pn)(l:List Nat):Prop:=∀(taken:List Nat) (n:Nat),taken.length+n<=64->(∀i∈l,i<p.ps.length)->(∀i∈taken,i<p.ps.length) ->
 zB 162 [.dp (eSe p),.sl 1 (l.map eN),.sl 1 (taken.map eN),eN n]=some (eR (JL (enP p) (jT p) l taken n))
theorem clone'(l:List Nat)(hl:l.length<=64):zB 243 [.sl 1 (l.map eN)]=some (if l=[] then .val .nl else .fresh 1 (l.map eN)):=by
 rw[map_eN',KnS.clone _ (by simp;omega)]
 unfold zGW;by_cases h:l=[]
 ·simp[h]
 ·simp[h]
theorem l162_1a(l taken:List Nat)(m:Nat)(hm:taken.length+(m+1)<=64)(k:Nat)(hk:k<l.length)(hll:l.length<=1000)(hl:∀i∈l,i<p.ps.length)(ht:∀i∈taken,i<p.ps.length)(hrec:Rec p (l.drop (k+1))) :
  ∀q,q<=taken.length->zFa (eSe p) (l.map eN) (taken.map eN) ((m+1:Nat):Int) k (l[k]:Nat) l.length taken.length q =
   match (if (taken.drop q).any (λt=>jT p t l[k]) then none else JL (enP p) (jT p) (l.drop (k+1)) (taken++[l[k]]) m:Ch) with
   | none=>q0 (eSe p) (l.map eN) (taken.map eN) ((m+1:Nat):Int) l.length ((k+1:Nat):Int)
   | some (c,e)=>JC (eSe p) (l.map eN) (taken.map eN) ((m+1:Nat):Int) l.length ((k+1:Nat):Int) (c.map eN) e:=by
 have h8:=h.l;have hi8:l[k]<8:=by have:=hl _ (List.getElem_mem hk);omega
 apply down
 ·have hr:=hrec (taken++[l[k]]) m (by simp;omega) (λi hi=>hl i (List.mem_of_mem_drop hi)) (λi hi=>by
   rcases List.mem_append.1 hi with hi | hi
   ·exact ht i hi
   ·simp at hi;subst hi;exact hl _ (List.getElem_mem hk))
  rw[zFZ];have e2:((k:Int)+1)=((k+1:Nat):Int):=by omega
  have e3:(((m+1:Nat):Int) - 1)=(m:Int):=by omega
  have e4:(0:Int)<=((k+1:Nat):Int):=by omega
  have e5:k+1<=l.length:=by omega
  have e6:(2 * (taken.length+1)+200) * 8<=281474976710656:=by omega
  have w1:IntKind.i64.wrap ((k+1:Nat):Int)=((k+1:Nat):Int):=wr _ (by omega)
  have w2:IntKind.i64.wrap (m:Int)=(m:Int):=wr _ (by omega)
  have hdr:List.drop (k+1) (List.take l.length (List.map eN l))=(l.drop (k+1)).map eN:=by rw[List.take_of_length_le (by simp),List.map_drop]
  have htk:List.take (taken.map eN++[DV.int .i64 (l[k]:Int)]).length (taken.map eN++[DV.int .i64 (l[k]:Int)])=(taken++[l[k]]).map eN:=by rw[List.take_length];simp
  simp only[zX];simp only[Int.lt_irrefl,if_false,e2,w1,e4,if_true,Int.toNat_natCast,List.length_map,e5,Nat.le_refl,and_self,hdr,clone' p h taken (by omega),e3,w2,List.drop_zero,htk,List.drop_length,List.any_nil,Bool.false_eq_true]
  by_cases h0:taken=[]
  ·subst h0;simp only[if_true,zJ,isNl,zF];simp only[List.nil_append,List.map_cons,List.map_nil] at hr;rw[hr];simp only[List.nil_append];cases JL (enP p) (jT p) (l.drop (k+1)) [l[k]] m with
   | none=>simp only[eR,zJ,zz,jD,zL,zN,h266,h4,Bool.and_self,zF,zb,z8,zT]
   | some x=>simp only[eR,zJ,zz,jD,zL,zN,h266,h4,Bool.and_self,zF,zY,zb,z8,zV,zQ,zK]
  ·simp only[h0,if_false,zDs,beq_self_eq_true,zF,List.length_append,List.length_map,List.length_cons,List.length_nil,Nat.zero_add,Nat.le_refl,if_true,e6];rw[show taken.length+1=(taken.map eN++[DV.int .i64 (l[k]:Int)]).length by simp,htk,hr]
   cases JL (enP p) (jT p) (l.drop (k+1)) (taken++[l[k]]) m with
   | none=>simp only[eR,zJ,zz,jD,zL,zN,h266,h4,Bool.and_self,zF,zb,z8,zT]
   | some x=>simp only[eR,zJ,zz,jD,zL,zN,h266,h4,Bool.and_self,zF,zY,zb,z8,zV,zQ,zK]
 ·intro q hq ih;have ht8:taken[q]<8:=by have:=ht _ (List.getElem_mem hq);omega
  have e1:(q:Int)<taken.length:=by omega
  have e0:(0:Int)<=(q:Int):=by omega
  have e2:(0:Int)<=(taken[q]:Int):=by omega
  have e3:(0:Int)<=(l[k]:Int):=by omega
  have hn:=zJf p h taken[q] l[k] ht8 hi8;rw[zFZ,zi taken q hq,List.any_cons];simp only[zX];simp only[List.length_map,e1,e0,e2,e3,and_self,if_true,Int.toNat_natCast,zP _ taken q hq,h3,zF,zK,hn,h4,z8];have a1:jQ 16 2 (eSe p)=true:=rfl;have a2:jQ 15 taken[q] (nth (flds (eSe p)) 2)=true:=by simp[jQ];omega
  have a3:jQ 14 l[k] (nth (flds (nth (flds (eSe p)) 2)) taken[q])=true:=by
   have e1:nth (flds (nth (flds (eSe p)) 2)) taken[q]=.agg 14 ((List.range 8).map λi=>.bool (jT p taken[q] i)):=by
    show nth ((List.range 8).map λj=>.agg 14 ((List.range 8).map λi=>.bool (jT p j i))) taken[q]=_
    rw[zP _ _ _ (by simpa using ht8),List.getElem_range]
   rw[e1];simp[jQ];omega
  simp only[a1,a2,a3,zF];rw[wr ((k:Int)+1) (by omega),wr ((q:Int)+1) (by omega),show((q:Int)+1)=((q+1:Nat):Int) by omega,show((k:Int)+1)=((k+1:Nat):Int) by omega]
  cases hnn:jT p taken[q] l[k] with
  | true=>simp
  | false=>simp only[zT,ih,Bool.false_or]
theorem l162_1b(c0:List Nat)(e0':Int)(l taken:List Nat)(m:Nat)(hm:taken.length+(m+1)<=64)(k:Nat)(hk:k<l.length)(hll:l.length<=1000)(hl:∀i∈l,i<p.ps.length)(ht:∀i∈taken,i<p.ps.length)(hrec:Rec p (l.drop (k+1))) :
  ∀q,q<=taken.length->zFY (eSe p) (l.map eN) (taken.map eN) ((m+1:Nat):Int) k (l[k]:Nat) l.length taken.length q (c0.map eN) e0' =
   match (if (taken.drop q).any (λt=>jT p t l[k]) then none else JL (enP p) (jT p) (l.drop (k+1)) (taken++[l[k]]) m:Ch) with
   | none=>JC (eSe p) (l.map eN) (taken.map eN) ((m+1:Nat):Int) l.length ((k+1:Nat):Int) (c0.map eN) e0'
   | some (c,e)=>if e>e0' then JC (eSe p) (l.map eN) (taken.map eN) ((m+1:Nat):Int) l.length ((k+1:Nat):Int) (c.map eN) e else JC (eSe p) (l.map eN) (taken.map eN) ((m+1:Nat):Int) l.length ((k+1:Nat):Int) (c0.map eN) e0':=by
 have h8:=h.l;have hi8:l[k]<8:=by have:=hl _ (List.getElem_mem hk);omega
 apply down
 ·have hr:=hrec (taken++[l[k]]) m (by simp;omega) (λi hi=>hl i (List.mem_of_mem_drop hi)) (λi hi=>by
   rcases List.mem_append.1 hi with hi | hi
   ·exact ht i hi
   ·simp at hi;subst hi;exact hl _ (List.getElem_mem hk))
  rw[zFX];have e2:((k:Int)+1)=((k+1:Nat):Int):=by omega
  have e3:(((m+1:Nat):Int) - 1)=(m:Int):=by omega
  have e4:(0:Int)<=((k+1:Nat):Int):=by omega
  have e5:k+1<=l.length:=by omega
  have e6:(2 * (taken.length+1)+200) * 8<=281474976710656:=by omega
  have w1:IntKind.i64.wrap ((k+1:Nat):Int)=((k+1:Nat):Int):=wr _ (by omega)
  have w2:IntKind.i64.wrap (m:Int)=(m:Int):=wr _ (by omega)
  have hdr:List.drop (k+1) (List.take l.length (List.map eN l))=(l.drop (k+1)).map eN:=by rw[List.take_of_length_le (by simp),List.map_drop]
  have htk:List.take (taken.map eN++[DV.int .i64 (l[k]:Int)]).length (taken.map eN++[DV.int .i64 (l[k]:Int)])=(taken++[l[k]]).map eN:=by rw[List.take_length];simp
  simp only[zX];simp only[Int.lt_irrefl,if_false,e2,w1,e4,if_true,Int.toNat_natCast,List.length_map,e5,Nat.le_refl,and_self,hdr,clone' p h taken (by omega),e3,w2,List.drop_zero,htk,List.drop_length,List.any_nil,Bool.false_eq_true]
  by_cases h0:taken=[]
  ·subst h0;simp only[if_true,zJ,isNl,zF];simp only[List.nil_append,List.map_cons,List.map_nil] at hr;rw[hr];simp only[List.nil_append];cases JL (enP p) (jT p) (l.drop (k+1)) [l[k]] m with
   | none=>simp only[eR,zJ,zz,jD,zL,zN,h266,h4,Bool.and_self,zF,zb,z8,zT]
   | some x=>simp only[eR,zJ,zz,jD,zL,zN,h266,h4,Bool.and_self,zF,zY,zb,z8,zV,zQ,zK];rfl
  ·simp only[h0,if_false,zDs,beq_self_eq_true,zF,List.length_append,List.length_map,List.length_cons,List.length_nil,Nat.zero_add,Nat.le_refl,if_true,e6];rw[show taken.length+1=(taken.map eN++[DV.int .i64 (l[k]:Int)]).length by simp,htk,hr]
   cases JL (enP p) (jT p) (l.drop (k+1)) (taken++[l[k]]) m with
   | none=>simp only[eR,zJ,zz,jD,zL,zN,h266,h4,Bool.and_self,zF,zb,z8,zT]
   | some x=>simp only[eR,zJ,zz,jD,zL,zN,h266,h4,Bool.and_self,zF,zY,zb,z8,zV,zQ,zK];rfl
 ·intro q hq ih;have ht8:taken[q]<8:=by have:=ht _ (List.getElem_mem hq);omega
  have e1:(q:Int)<taken.length:=by omega
  have e0:(0:Int)<=(q:Int):=by omega
  have e2:(0:Int)<=(taken[q]:Int):=by omega
  have e3:(0:Int)<=(l[k]:Int):=by omega
  have hn:=zJf p h taken[q] l[k] ht8 hi8;rw[zFX,zi taken q hq,List.any_cons];simp only[zX];simp only[List.length_map,e1,e0,e2,e3,and_self,if_true,Int.toNat_natCast,zP _ taken q hq,h3,zF,zK,hn,h4,z8];have a1:jQ 16 2 (eSe p)=true:=rfl;have a2:jQ 15 taken[q] (nth (flds (eSe p)) 2)=true:=by simp[jQ];omega
  have a3:jQ 14 l[k] (nth (flds (nth (flds (eSe p)) 2)) taken[q])=true:=by
   have e1:nth (flds (nth (flds (eSe p)) 2)) taken[q]=.agg 14 ((List.range 8).map λi=>.bool (jT p taken[q] i)):=by
    show nth ((List.range 8).map λj=>.agg 14 ((List.range 8).map λi=>.bool (jT p j i))) taken[q]=_
    rw[zP _ _ _ (by simpa using ht8),List.getElem_range]
   rw[e1];simp[jQ];omega
  simp only[a1,a2,a3,zF];rw[wr ((k:Int)+1) (by omega),wr ((q:Int)+1) (by omega),show((q:Int)+1)=((q+1:Nat):Int) by omega,show((k:Int)+1)=((k+1:Nat):Int) by omega]
  cases hnn:jT p taken[q] l[k] with
  | true=>simp
  | false=>simp only[zT,ih,Bool.false_or]
theorem l162_0(l taken:List Nat)(m:Nat)(hm:taken.length+(m+1)<=64)(hll:l.length<=1000)(hl:∀i∈l,i<p.ps.length)(ht:∀i∈taken,i<p.ps.length)(hrec:∀k,k<l.length->Rec p (l.drop (k+1))) :
  ∀k,k<=l.length->q0 (eSe p) (l.map eN) (taken.map eN) ((m+1:Nat):Int) l.length k=some (eR (JL (enP p) (jT p) (l.drop k) taken (m+1))) /\
   ∀(c:List Nat) (e:Int),JC (eSe p) (l.map eN) (taken.map eN) ((m+1:Nat):Int) l.length k (c.map eN) e=some (eR (pick (some (c,e)) (JL (enP p) (jT p) (l.drop k) taken (m+1)))):=by
 apply down (P:=λk=>q0 (eSe p) (l.map eN) (taken.map eN) ((m+1:Nat):Int) l.length k=some (eR (JL (enP p) (jT p) (l.drop k) taken (m+1))) /\
   ∀(c:List Nat) (e:Int),JC (eSe p) (l.map eN) (taken.map eN) ((m+1:Nat):Int) l.length k (c.map eN) e=some (eR (pick (some (c,e)) (JL (enP p) (jT p) (l.drop k) taken (m+1)))))
 ·refine⟨?_,λc e=>?_⟩
  ·rw[zBw];simp[JL,eR]
  ·rw[zFb];simp[JL,eR,pick]
 ·rintro k hk ⟨ih1,ih2⟩;have e1:(k:Int)<l.length:=by omega
  have e0:(0:Int)<=(k:Int):=by omega
  rw[zi l k hk];refine⟨?_,λc e=>?_⟩
  ·have h1:=l162_1a p h l taken m hm k hk hll hl ht (hrec k hk) 0 (Nat.zero_le _);rw[show((0:Nat):Int)=0 from rfl,List.drop_zero] at h1
   rw[zBw,JL];simp only[zX];simp only[List.length_map,e1,e0,and_self,if_true,Int.toNat_natCast,zP _ l k hk,h3,zF,zK];rw[h1];cases (if taken.any (λt=>jT p t l[k]) then none else JL (enP p) (jT p) (l.drop (k+1)) (taken++[l[k]]) m:Ch) with
   | none=>exact ih1
   | some x=>exact ih2 x.1 x.2
  ·have h1:=l162_1b p h c e l taken m hm k hk hll hl ht (hrec k hk) 0 (Nat.zero_le _);rw[show((0:Nat):Int)=0 from rfl,List.drop_zero] at h1
   rw[zFb,JL,<-pick_assoc];simp only[zX];simp only[List.length_map,e1,e0,and_self,if_true,Int.toNat_natCast,zP _ l k hk,h3,zF,zK];rw[h1];cases (if taken.any (λt=>jT p t l[k]) then none else JL (enP p) (jT p) (l.drop (k+1)) (taken++[l[k]]) m:Ch) with
   | none=>rw[zC7];exact ih2 c e
   | some x =>
    obtain⟨c',e'⟩:=x;simp only[pick];by_cases hx:e'>e
    ·rw[if_pos hx,if_pos hx];exact ih2 c' e'
    ·rw[if_neg hx,if_neg hx];exact ih2 c e
theorem rec_all:∀(N:Nat) (l:List Nat),l.length<=N->l.length<=1000->Rec p l:=by
 intro N;induction N with
 | zero =>
  intro l hl h1000 taken n hn hi ht;have:l=[]:=List.eq_nil_of_length_eq_zero (by omega)
  subst this;rw[C162];simp only[zL,zN,h268,h25,h3,Bool.and_self,zF,qt,zQ,zK];cases n with
  | zero =>
   simp only[Int.natCast_zero,beq_self_eq_true,zF,c242 p h taken (by omega) ht,zJ,h3,zK]
   rfl
  | succ m =>
   have hb:(((m+1:Nat):Int) == (0:Int))=false:=by simp;omega
   rw[hb,zT,zBw];simp[JL,eR]
 | succ N ih =>
  intro l hl h1000 taken n hn hi ht;rw[C162];simp only[zL,zN,h268,h25,h3,Bool.and_self,zF,qt,zQ,zK];cases n with
  | zero =>
   simp only[Int.natCast_zero,beq_self_eq_true,zF,c242 p h taken (by omega) ht,zJ,h3,zK]
   cases l <;> rfl
  | succ m =>
   have hb:(((m+1:Nat):Int) == (0:Int))=false:=by simp;omega
   have:=(l162_0 p h l taken m hn h1000 hi ht (λk hk=>ih _ (by simp;omega) (by simp;omega)) 0 (Nat.zero_le _)).1
   rw[hb,zT,List.length_map];rw[show((0:Nat):Int)=0 from rfl,List.drop_zero] at this
   exact this
theorem c162(l taken:List Nat)(n:Nat)(hll:l.length<=1000)(hn:taken.length+n<=64)(hl:∀i∈l,i<p.ps.length)(ht:∀i∈taken,i<p.ps.length) :
  zB 162 [.dp (eSe p),.sl 1 (l.map eN),.sl 1 (taken.map eN),eN n]=some (eR (JL (enP p) (jT p) l taken n)):=rec_all p h l.length l (Nat.le_refl _) hll taken n hn hl ht
end
theorem l163(n:Nat)(hn:n<=1000):∀k,k<=n->0<k->zCy ((List.range k).map eN) n k=some (.val (.sl 1 ((List.range n).map eN))):=by
 apply down (P:=λk=>0<k->zCy ((List.range k).map eN) n k=some (.val (.sl 1 ((List.range n).map eN))))
 ·intro _;rw[zFW];simp only[zX,Int.lt_irrefl,if_false,List.length_map,List.length_range,Nat.zero_add,Nat.le_refl,if_true,List.drop_zero];rw[List.take_of_length_le (by simp)]
 ·intro k hk ih h0;have e1:(k:Int)<n:=by omega
  have e2:(2 * (k+1)+200) * 8<=281474976710656:=by omega
  rw[<-ih (by omega),zFW]
  simp only[zX,List.length_map,List.length_range,e1,e2,if_true];rw[wr ((k:Int)+1) (by omega),List.range_succ,List.map_append]
  rfl
theorem c163(p:Pn)(hr:zv p.r)(hl:p.ps.length<=1000):zB 163 [ePn p]=some (.val (.sl 1 ((List.range p.ps.length).map eN))):=by
 rw[C163];simp only[zL,zN,hPn p hr,Bool.and_self,zF,zV,zY,zQ,List.length_map];rw[L163_0a_eq];simp only[zX];by_cases h:p.ps.length=0
 ·simp[h]
 ·have:=l163 p.ps.length hl 1 (by omega) (by omega)
  rw[if_pos (by omega)]
  exact this
def bestF(p:Pn)(n:Int):List Nat×Int×Int :=
 if bestE p n=0 then (match JL (enP p) (jT p) (List.range p.ps.length) [] n.toNat with | none=>([],0,24) | some (c,e)=>(c,e,0)) else ([],0,bestE p n)
theorem c44[KnW][KnS](p:Pn)(hr:zv p.r)(n:Int):zB 44 [ePn p,eI n]=some (.val (.tup [.sl 1 ((bestF p n).1.map eN),eI (bestF p n).2.1,eI (bestF p n).2.2])):=by
 rw[C44];simp only[zL,zN,hPn p hr,h3,Bool.and_self,zF,zV,zY,zb,zq,zy,QW,zl,zK,zQ,List.length_map,c160 p hr,zJ,h46,c149,zAP];have hbe:zO [fewE p,zZ n 0 p.ps.length]=bestE p n:=rfl;rw[hbe];unfold bestF;by_cases h0:bestE p n=0
 ·obtain⟨h1,h2⟩:=jH h0;have h2:=jF.1 (jH h2).1;have hp:=fewE_ok h1 hr;obtain⟨k,rfl⟩:∃k:Nat,n=k:=⟨n.toNat,by omega⟩
  have hl8:=hp.l;have hc:=c162 p hp (List.range p.ps.length) [] k (by simp;omega) (by simp;omega) (λi hi=>by simpa using hi) (λi hi=>by simp at hi)
  simp only[List.map_nil] at hc;rw[if_pos h0];simp only[bne0 h0,zT,KnS.search p hr hp.l hp.v.p hp.least.1 hp.least.2,zJ,h268,zF,qt,c163 p hr (by omega),h25,zQ,hc,Int.toNat_natCast]
  cases JL (enP p) (jT p) (List.range p.ps.length) [] k with
  | none=>simp[eR]
  | some x=>simp[eR]
 ·rw[if_neg h0];simp[bne1 h0]
end Go.Am
namespace Go.Am
open Go.Proofs
open Go Go.RowKit
theorem enters{f:FuncId}{fn:Func}(h:PP.funcs[f]? = some fn)(h1:(fn.name == "runtime.NumGoroutine")=false)(h2:fn.body.isNone=false):Enters PP f:=⟨fn,h,h1,h2⟩
def T243(ds:List DV)(r:CR):Prop:=∃l:List Int,l.length<=100000/\ds=[.sl 1 (l.map eI)]/\r=zGW l
def T210(ds:List DV)(r:CR):Prop:=∃n:Int,-9223372036854775808<=n/\n<=9223372036854775807/\ds=[eI n]/\r=.val (.str ⟨(Lib.itoa n).toArray⟩)
def T208(ds:List DV)(r:CR):Prop:=∃(l:List ByteArray) (s:ByteArray),l.length<=1000/\(∀x∈l,x.size<=1000)/\s.size<=1000/\ds=[.sl 1 (l.map .str),.str s] /\
 r=.val (.str ⟨(Lib.join (l.map (·.data.toList)) s.data.toList).toArray⟩)
theorem at243(ds:List DV)(r:CR):T243 ds r->Qk PP EE 243 ds r:=by
 rintro⟨l,hl,rfl,rfl⟩;refine⟨enters Tryz.func243 (by kernel_rfl) (by kernel_rfl),λS w vals hg hlt hlen hv=>?_⟩
 obtain⟨v,rfl⟩:∃v,vals=[v]:=List.length_eq_one_iff.1 hlen;have h0:=hv 0 (by simp) (by simp)
 simp only[List.getElem_cons_zero] at h0;obtain⟨a,c,e,hc,hm⟩:=RD.sl1 (g:=Value.int .i64) (λx cs h=>RD.int1 h) (RV.rd rfl h0).1
 obtain rfl:=zCS h0 rfl rfl e;by_cases h:l=[]
 ·subst h;rw[show zGW []=.val .nl from rfl]
  cases a with
  | none=>exact(Tryz.slices_Clone_int_nil 0 c w).mono λe w' ⟨h1,h2⟩=>⟨_,h1,by subst h2;exact Q9 hlt (Below.refl _ _) ⟨RD.nl none,rfl⟩⟩
  | some ad=>exact(clone_zero Tryz.laysNm215 ad c w).mono λe w' ⟨ad',h1,h2⟩=>⟨_,h1,Q9 hlt h2 ⟨RD.nl (some ad'),rfl⟩⟩
 ·rw[show zGW l=.fresh 1 (l.map eI) from if_neg h]
  have h0:0<l.length:=List.length_pos_iff.2 h;obtain⟨ad,rfl,hsp,hS,hcell⟩:=hm h0;have ead:ad=⟨ad.block,ad.off,none⟩:=by rw[<-hsp]
  rw[ead];refine(Tryz.slices_Clone_int ad.block ad.off l.length c l w (Nat.le_refl _) (by omega) (λj hj=>?_)).mono λe w' ⟨v',h1,hown,hne,hB⟩=>⟨v',h1,?_⟩
  ·have:=hcell j l[j] (List.getElem?_eq_getElem hj);rw[jk hsp] at this;rw[this,List.getD_eq_getElem?_getD,List.getElem?_eq_getElem hj];rfl
  ·rcases hown.2 with ⟨h2,_⟩ | ⟨g,cap,cur,rfl,hg1,hg2,hg3,hg4,hg5,hg6⟩
   ·exact absurd h2 hne
   ·refine⟨S,hB,λ_ h=>h,λ_ h=>.inl h,λb hb=>Nat.lt_of_lt_of_le (hlt b hb) hB.size,g,hg1,λhx=>absurd (hlt g hx) (by omega),λφ=>?_,λφ s hs=>?_⟩
    ·refine⟨cur,3,(l.map λm=>[Value.int .i64 m]),hg2,by simp,λi h h'=>?_,λc hc=>?_,?_⟩
     ·simp only[List.getElem_map];exact .int _ _
     ·obtain⟨m,_,rfl⟩:=List.mem_map.1 hc;rfl
     ·rw[flat1 (Value.int .i64),List.prefix_iff_eq_take,List.length_map];rw[List.take_of_length_le (Nat.le_refl _),Nat.mul_one] at hg6;exact hg6.symm
    ·refine⟨?_,rfl⟩;have:=RA.own (L:=EE.L) (S:=S) (φ:=φ) (w:=w') s 0 l.length 1 g cap hs hg3 ⟨cur,3,hg2,by omega⟩
     simpa[vcs,Value.cells] using this
theorem at210(ds:List DV)(r:CR):T210 ds r->Qk PP EE 210 ds r:=by
 rintro⟨n,hn1,hn2,rfl,rfl⟩;refine⟨enters Tryz.func210 (by kernel_rfl) (by kernel_rfl),λS w vals hg hlt hlen hv=>?_⟩
 obtain⟨v,rfl⟩:∃v,vals=[v]:=List.length_eq_one_iff.1 hlen;have h0:=hv 0 (by simp) (by simp)
 simp only[List.getElem_cons_zero] at h0;have e:=RD.int1 (RV.rd rfl h0).1;rw[z6 (RV.rd rfl h0).2] at e;obtain rfl:v=.int .i64 n:=by simpa using e
 obtain⟨hS,t,fr,hw⟩:=hg.tab 5 (Lib.pow10Tab.map λz=>Value.int .u64 z).toArray (by kernel_rfl)
 have hT:Lib.TabIs PP w "internal/strconv.uint64pow10" .u64 Lib.pow10Tab:=by
  unfold Lib.TabIs World.var?;rw[show PP.globalNamed "internal/strconv.uint64pow10"=some 5 by kernel_rfl]
  simp only[Option.bind_some,hw]
 exact(Tryz.strconv_Itoa n hn1 hn2 w hT).mono λe w' ⟨h1,k,os,h2⟩=>⟨_,h1,Q9 hlt (h2 ▸ Lib.below_grow _ _ (Nat.le_refl _) k os) ⟨RD.str _,rfl⟩⟩
theorem zJl(s:List UInt8)(hs:s.length<=1000):∀l:List (List UInt8),(∀x∈l,x.length<=1000)->(Lib.join l s).length<=l.length * 2000
 | [],_=>by simp[Lib.join]
 | [x],h=>by have:=h x (by simp);simp[Lib.join];omega
 | x :: y :: l,h=>by
  have h1:=h x (by simp)
  have h2:=zJl s hs (y :: l) λz hz=>h z (by simp[hz])
  rw[show Lib.join (x :: y :: l) s=x++s++Lib.join (y :: l) s by first | rfl | simp[Lib.join]]
  simp only[List.length_append,List.length_cons] at h2 ⊢;omega
theorem at208(ds:List DV)(r:CR):T208 ds r->Qk PP EE 208 ds r:=by
 rintro⟨l,s,hl,hx,hs,rfl,rfl⟩;refine⟨enters Tryz.func208 (by kernel_rfl) (by kernel_rfl),λS w vals hg hlt hlen hv=>?_⟩
 obtain⟨v,v2,rfl⟩:∃v v2,vals=[v,v2]:=by
  match vals,hlen with
  | [a,b],_=>exact⟨a,b,rfl⟩
 have h0:=hv 0 (by simp) (by simp)
 have h1:=hv 1 (by simp) (by simp)
 simp only[List.getElem_cons_zero,List.getElem_cons_succ] at h0 h1;have e:=RD.str1 (RV.rd rfl h1).1;rw[z6 (RV.rd rfl h1).2] at e;obtain rfl:v2=.string s:=by simpa using e
 obtain⟨a,c,e,hc,hm⟩:=RD.sl1 (g:=Value.string) (λx cs h=>RD.str1 h) (RV.rd rfl h0).1
 obtain rfl:=zCS h0 rfl rfl e;by_cases h:l=[]
 ·subst h;exact(Tryz.strings_Join_none a c s w).mono λe w' ⟨h1,h2⟩=>⟨_,h1,by subst h2;exact Q9 hlt (Below.refl _ _) ⟨RD.str _,rfl⟩⟩
 ·have h0:0<l.length:=List.length_pos_iff.2 h;obtain⟨ad,rfl,hsp,hS,hcell⟩:=hm h0;have ead:ad=⟨ad.block,ad.off,none⟩:=by rw[<-hsp]
  rw[ead];have hln:=zJl s.data.toList (by simpa using hs) (l.map (·.data.toList)) (λx hx'=>by
   obtain⟨y,hy,rfl⟩:=List.mem_map.1 hx';have:=hx y hy;simpa using this)
  rw[List.length_map] at hln;exact(Tryz.strings_Join ad.block ad.off c l s w (λj x hx=>by have:=hcell j x hx;rwa [jk hsp] at this) (hlt _ hS) (by omega) hc (by omega)).mono
   λe w' ⟨h1,h2⟩=>⟨_,h1,Q9 hlt h2 ⟨RD.str _,rfl⟩⟩
end Go.Am
namespace Go.Am
open Go.Proofs
open Go
variable[OO]
theorem C154:zB 154 [] =
 some (.val (.agg 4 [(.agg 0 [(.str (bs [115])),(eI 1),(.sl 3 [(.agg 9 [(.str (bs [97])),(.agg 1 [(eI 0),(eI 2)])]),(.agg 9 [(.str (bs [98])),(.agg 1 [(eI 0),(eI 1)])]),(.agg 9 [(.str (bs [99])),(.agg 1 [(eI 1),(eI 0)])])])]),(.agg 0 [(.str (bs [115,117,109])),(.sl 1 [(eI 128),(eI 64)]),(.sl 1 [(eI 0),(eI 1)])]),(.agg 1 [(.sl 1 [(eI 0),(eI 0),(eI 100),(eI 300),(eI 300)]),(eI 5)]),(.agg 3 [(.agg 2 [(eI 0),(eI 0),(eI 0),(eI 0),(eI 2),(eI 0),(eI 0),(eI 0),(eI 0),(eI 0),(eI 0),(eI 0),(eI 0),(eI 0),(eI 0),(eI 0),(eI 0),(eI 0),(eI 0),(eI 0),(eI 0),(eI 0),(eI 0),(eI 0),(eI 0),(eI 0),(eI 0),(eI 0),(eI 0),(eI 0),(eI 0),(eI 0),(eI 0),(eI 0),(eI 0),(eI 0),(eI 0),(eI 0),(eI 0),(eI 0),(eI 0),(eI 0),(eI 0),(eI 0),(eI 0),(eI 0),(eI 0),(eI 0),(eI 0),(eI 0),(eI 0)]),(.agg 2 (List.replicate (α:=DV) 51 (eI 0))),(.agg 2 (List.replicate (α:=DV) 51 (eI 0))),(.agg 2 (List.replicate (α:=DV) 51 (eI 0))),(.agg 2 (List.replicate (α:=DV) 51 (eI 0))),(.agg 2 (List.replicate (α:=DV) 51 (eI 0))),(.agg 2 (List.replicate (α:=DV) 51 (eI 0))),(.agg 2 (List.replicate (α:=DV) 51 (eI 0)))])])) :=
 (zM (f:=154) (by kernel_rfl) (by kernel_rfl) (by kernel_rfl) []).trans (by kernel_rfl)
theorem C155:zB 155 [] =
 zI (zB 154 [])
 (λr0=>ifO (zH EE 6 62 r0)
 (some (.val (.agg 6 [(.sl 2 [(.agg 1 [(eI 0),(eI 2)]),(.agg 1 [(eI 0),(eI 1)]),(.agg 1 [(eI 1),(eI 1)])]),(eI 1),(.agg 0 [(.str (ze (nth (flds (nth (flds r0) 1)) 0))),(.sl 1 (elems (nth (flds (nth (flds r0) 1)) 1))),(.sl 1 (elems (nth (flds (nth (flds r0) 1)) 2)))]),(.agg 1 [(.sl 1 (elems (nth (flds (nth (flds r0) 2)) 0))),(eI (zC (nth (flds (nth (flds r0) 2)) 1)))]),(.agg 3 (flds (nth (flds r0) 3)))])))
 (none))
 (λ_ _=>none) :=
 (zM (f:=155) (by kernel_rfl) (by kernel_rfl) (by kernel_rfl) []).trans (by kernel_rfl)
end Go.Am
namespace Go.Am
open Go.Proofs
open Go
variable[OO]
theorem C33:zB 33 [] =
 zI (zB 154 [])
 (λr0=>ifO (zH EE 6 62 r0)
 (zI (zB 64 [(.agg 0 [(.str (ze (nth (flds (nth (flds r0) 0)) 0))),(eI (zC (nth (flds (nth (flds r0) 0)) 1))),(.sl 3 (elems (nth (flds (nth (flds r0) 0)) 2)))]),(eI 0),(eI 0),(eI 2)])
 (λr1=>ifO ((DV.isTup r1) && (zS (zH EE 6) [3,3,46] (tups r1)))
 (zI (zB 64 [(.agg 0 [(.str (ze (nth (flds (nth (flds r0) 0)) 0))),(eI (zC (nth (flds (nth (flds r0) 0)) 1))),(.sl 3 (elems (nth (flds (nth (flds r0) 0)) 2)))]),(eI 1),(eI 0),(eI 2)])
 (λr2=>ifO ((DV.isTup r2) && (zS (zH EE 6) [3,3,46] (tups r2)))
 (zI (zB 77 [(.agg 0 [(.str (ze (nth (flds (nth (flds r0) 0)) 0))),(eI (zC (nth (flds (nth (flds r0) 0)) 1))),(.sl 3 (elems (nth (flds (nth (flds r0) 0)) 2)))]),(.agg 0 [(.str (ze (nth (flds (nth (flds r0) 1)) 0))),(.sl 1 (elems (nth (flds (nth (flds r0) 1)) 1))),(.sl 1 (elems (nth (flds (nth (flds r0) 1)) 2)))]),(eI 0)])
 (λr3=>ifO ((DV.isTup r3) && (zS (zH EE 6) [25,46] (tups r3)))
 (zI (zB 68 [(.agg 0 [(.str (ze (nth (flds (nth (flds r0) 0)) 0))),(eI (zC (nth (flds (nth (flds r0) 0)) 1))),(.sl 3 (elems (nth (flds (nth (flds r0) 0)) 2)))]),(eI 0)])
 (λr4=>ifO ((DV.isTup r4) && (zS (zH EE 6) [25,46] (tups r4)))
 (zI (zB 78 [(.agg 0 [(.str (ze (nth (flds (nth (flds r0) 0)) 0))),(eI (zC (nth (flds (nth (flds r0) 0)) 1))),(.sl 3 (elems (nth (flds (nth (flds r0) 0)) 2)))]),(.agg 0 [(.str (ze (nth (flds (nth (flds r0) 1)) 0))),(.sl 1 (elems (nth (flds (nth (flds r0) 1)) 1))),(.sl 1 (elems (nth (flds (nth (flds r0) 1)) 2)))]),(eI 0),(eI 4)])
 (λr5=>ifO ((DV.isTup r5) && (zS (zH EE 6) [25,46] (tups r5)))
 (zI (zB 32 [(.agg 4 [(.agg 0 [(.str (ze (nth (flds (nth (flds r0) 0)) 0))),(eI (zC (nth (flds (nth (flds r0) 0)) 1))),(.sl 3 (elems (nth (flds (nth (flds r0) 0)) 2)))]),(.agg 0 [(.str (ze (nth (flds (nth (flds r0) 1)) 0))),(.sl 1 (elems (nth (flds (nth (flds r0) 1)) 1))),(.sl 1 (elems (nth (flds (nth (flds r0) 1)) 2)))]),(.agg 1 [(.sl 1 (elems (nth (flds (nth (flds r0) 2)) 0))),(eI (zC (nth (flds (nth (flds r0) 2)) 1)))]),(.agg 3 (flds (nth (flds r0) 3)))]),(eI 0),(eI 4)])
 (λr6=>ifO ((DV.isTup r6) && (zS (zH EE 6) [25,46] (tups r6)))
 (zI (zB 32 [(.agg 4 [(.agg 0 [(.str (ze (nth (flds (nth (flds r0) 0)) 0))),(eI (zC (nth (flds (nth (flds r0) 0)) 1))),(.sl 3 (elems (nth (flds (nth (flds r0) 0)) 2)))]),(.agg 0 [(.str (ze (nth (flds (nth (flds r0) 1)) 0))),(.sl 1 (elems (nth (flds (nth (flds r0) 1)) 1))),(.sl 1 (elems (nth (flds (nth (flds r0) 1)) 2)))]),(.agg 1 [(.sl 1 (elems (nth (flds (nth (flds r0) 2)) 0))),(eI (zC (nth (flds (nth (flds r0) 2)) 1)))]),(.agg 3 (flds (nth (flds r0) 3)))]),(eI 0),(eI 5)])
 (λr7=>ifO ((DV.isTup r7) && (zS (zH EE 6) [25,46] (tups r7)))
 (zI (zB 106 [(.agg 1 [(.sl 1 (elems (nth (flds (nth (flds r0) 2)) 0))),(eI (zC (nth (flds (nth (flds r0) 2)) 1)))]),(eI 640)])
 (λr8=>ifO ((DV.isTup r8) && (zS (zH EE 6) [3,46] (tups r8)))
 (ifO (bne (IntKind.wrap .i64 ((IntKind.wrap .i64 ((IntKind.wrap .i64 ((IntKind.wrap .i64 ((IntKind.wrap .i64 ((IntKind.wrap .i64 ((IntKind.wrap .i64 ((zC (nth (tups r1) 2))+(zC (nth (tups r2) 2))))+(zC (nth (tups r3) 1))))+(zC (nth (tups r4) 1))))+(zC (nth (tups r5) 1))))+(zC (nth (tups r6) 1))))+(zC (nth (tups r7) 1))))+(zC (nth (tups r8) 1)))) (0:Int))
 (some (.val (.bool false)))
 (ifO (bne (zC (nth (tups r1) 0)) (2:Int))
 (some (.val (.bool false)))
 (ifO (bne (zC (nth (tups r1) 1)) (1:Int))
 (some (.val (.bool false)))
 (ifO (bne (zC (nth (tups r2) 0)) (0:Int))
 (some (.val (.bool false)))
 (ifO (bne (zC (nth (tups r2) 1)) (3:Int))
 (some (.val (.bool false)))
 (zI (zB 126 [(.sl 1 (elems (nth (tups r3) 0))),(.sl 1 [(eI 0),(eI 128),(eI 64)])])
 (λr9=>ifO (zH EE 6 4 r9)
 (ifO (!(YI r9))
 (some (.val (.bool false)))
 (zI (zB 126 [(.sl 1 (elems (nth (tups r4) 0))),(.sl 1 [(eI 0),(eI 1),(eI 2)])])
 (λr10=>ifO (zH EE 6 4 r10)
 (ifO (!(YI r10))
 (some (.val (.bool false)))
 (zI (zB 126 [(.sl 1 (elems (nth (tups r5) 0))),(.sl 1 [(eI 1024),(eI 512),(eI 768)])])
 (λr11=>ifO (zH EE 6 4 r11)
 (ifO (!(YI r11))
 (some (.val (.bool false)))
 (zI (zB 126 [(.sl 1 (elems (nth (tups r6) 0))),(.sl 1 [(eI 76800),(eI 25600),(eI 76800)])])
 (λr12=>ifO (zH EE 6 4 r12)
 (ifO (!(YI r12))
 (some (.val (.bool false)))
 (zI (zB 126 [(.sl 1 (elems (nth (tups r7) 0))),(.sl 1 [(eI 0),(eI 0),(eI 0)])])
 (λr13=>ifO (zH EE 6 4 r13)
 (ifO (!(YI r13))
 (some (.val (.bool false)))
 (ifO (bne (zC (nth (tups r8) 0)) (51200:Int))
 (some (.val (.bool false)))
 (zI (zB 30 [(.agg 4 [(.agg 0 [(.str (ze (nth (flds (nth (flds r0) 0)) 0))),(eI (zC (nth (flds (nth (flds r0) 0)) 1))),(.sl 3 (elems (nth (flds (nth (flds r0) 0)) 2)))]),(.agg 0 [(.str (ze (nth (flds (nth (flds r0) 1)) 0))),(.sl 1 (elems (nth (flds (nth (flds r0) 1)) 1))),(.sl 1 (elems (nth (flds (nth (flds r0) 1)) 2)))]),(.agg 1 [(.sl 1 (elems (nth (flds (nth (flds r0) 2)) 0))),(eI (zC (nth (flds (nth (flds r0) 2)) 1)))]),(.agg 3 (flds (nth (flds r0) 3)))])])
 (λr14=>ifO ((DV.isTup r14) && (zS (zH EE 6) [3,46] (tups r14)))
 (zI (zB 84 [(.agg 4 [(.agg 0 [(.str (ze (nth (flds (nth (flds r0) 0)) 0))),(eI (zC (nth (flds (nth (flds r0) 0)) 1))),(.sl 3 (elems (nth (flds (nth (flds r0) 0)) 2)))]),(.agg 0 [(.str (ze (nth (flds (nth (flds r0) 1)) 0))),(.sl 1 (elems (nth (flds (nth (flds r0) 1)) 1))),(.sl 1 (elems (nth (flds (nth (flds r0) 1)) 2)))]),(.agg 1 [(.sl 1 (elems (nth (flds (nth (flds r0) 2)) 0))),(eI (zC (nth (flds (nth (flds r0) 2)) 1)))]),(.agg 3 (flds (nth (flds r0) 3)))])])
 (λr15=>ifO ((DV.isTup r15) && (zS (zH EE 6) [3,46] (tups r15)))
 (zI (zB 85 [(.agg 4 [(.agg 0 [(.str (ze (nth (flds (nth (flds r0) 0)) 0))),(eI (zC (nth (flds (nth (flds r0) 0)) 1))),(.sl 3 (elems (nth (flds (nth (flds r0) 0)) 2)))]),(.agg 0 [(.str (ze (nth (flds (nth (flds r0) 1)) 0))),(.sl 1 (elems (nth (flds (nth (flds r0) 1)) 1))),(.sl 1 (elems (nth (flds (nth (flds r0) 1)) 2)))]),(.agg 1 [(.sl 1 (elems (nth (flds (nth (flds r0) 2)) 0))),(eI (zC (nth (flds (nth (flds r0) 2)) 1)))]),(.agg 3 (flds (nth (flds r0) 3)))])])
 (λr16=>ifO ((DV.isTup r16) && (zS (zH EE 6) [160,46] (tups r16)))
 (zI (zB 155 [])
 (λr17=>ifO (zH EE 6 88 r17)
 (zI (zB 44 [(.agg 6 [(.sl 2 (elems (nth (flds r17) 0))),(eI (zC (nth (flds r17) 1))),(.agg 0 [(.str (ze (nth (flds (nth (flds r17) 2)) 0))),(.sl 1 (elems (nth (flds (nth (flds r17) 2)) 1))),(.sl 1 (elems (nth (flds (nth (flds r17) 2)) 2)))]),(.agg 1 [(.sl 1 (elems (nth (flds (nth (flds r17) 3)) 0))),(eI (zC (nth (flds (nth (flds r17) 3)) 1)))]),(.agg 3 (flds (nth (flds r17) 4)))]),(eI 2)])
 (λr18=>ifO ((DV.isTup r18) && (zS (zH EE 6) [25,3,46] (tups r18)))
 (zI (zB 155 [])
 (λr19=>ifO (zH EE 6 88 r19)
 (zI (zB 50 [(.agg 6 [(.sl 2 (elems (nth (flds r19) 0))),(eI (zC (nth (flds r19) 1))),(.agg 0 [(.str (ze (nth (flds (nth (flds r19) 2)) 0))),(.sl 1 (elems (nth (flds (nth (flds r19) 2)) 1))),(.sl 1 (elems (nth (flds (nth (flds r19) 2)) 2)))]),(.agg 1 [(.sl 1 (elems (nth (flds (nth (flds r19) 3)) 0))),(eI (zC (nth (flds (nth (flds r19) 3)) 1)))]),(.agg 3 (flds (nth (flds r19) 4)))]),(.sl 1 [(.sl 1 [(eI 0),(eI 1)]),(.sl 1 [(eI 2)])]),(eI 2)])
 (λr20=>ifO ((DV.isTup r20) && (zS (zH EE 6) [3,46] (tups r20)))
 (zI (zB 108 [(.agg 1 [(.sl 1 (elems (nth (flds (nth (flds r0) 2)) 0))),(eI (zC (nth (flds (nth (flds r0) 2)) 1)))])])
 (λr21=>ifO ((DV.isTup r21) && (zS (zH EE 6) [9,46] (tups r21)))
 (ifO ((IntKind.wrap .i64 ((IntKind.wrap .i64 ((IntKind.wrap .i64 ((IntKind.wrap .i64 ((IntKind.wrap .i64 ((zC (nth (tups r14) 1))+(zC (nth (tups r15) 1))))+(zC (nth (tups r16) 1))))+(zC (nth (tups r18) 2))))+(zC (nth (tups r20) 1))))+(zC (nth (tups r21) 1)))) == (0:Int))
 (ifO ((zC (nth (tups r14) 0)) == (358400:Int))
 (ifO ((zC (nth (tups r15) 0)) == (460800:Int))
 (ifO (ifO.match_1 (λy707=>Bool) false (λy298=>(!(Option.getD (Y0 EE 160 (.agg 1 [(eI (zC (nth (flds (nth (tups r16) 0)) 0))),(eI (zC (nth (flds (nth (tups r16) 0)) 1)))]) (.agg 1 [(eI 2),(eI 9)])) false))) (λy882=>(Option.getD (Y0 EE 160 (.agg 1 [(eI (zC (nth (flds (nth (tups r16) 0)) 0))),(eI (zC (nth (flds (nth (tups r16) 0)) 1)))]) (.agg 1 [(eI 2),(eI 9)])) false)))
 (zI (zB 126 [(.sl 1 (elems (nth (tups r18) 0))),(.sl 1 [(eI 0),(eI 2)])])
 (λr22=>ifO (zH EE 6 4 r22)
 (ifO (YI r22)
 (ifO ((zC (nth (tups r18) 1)) == (307200:Int))
 (ifO ((zC (nth (tups r20) 0)) == (307200:Int))
 (some (.val (.bool ((ByteArray.toList (ze (nth (tups r21) 0))) == (ByteArray.toList (bs [53,32,48,32,48,32,49,48,48,32,51,48,48,32,51,48,48]))))))
 (some (.val (.bool false))))
 (some (.val (.bool false))))
 (some (.val (.bool false))))
 (none))
 (λ_ _=>none))
 (some (.val (.bool false))))
 (some (.val (.bool false))))
 (some (.val (.bool false))))
 (some (.val (.bool false))))
 (none))
 (λ_ _=>none))
 (none))
 (λ_ _=>none))
 (none))
 (λ_ _=>none))
 (none))
 (λ_ _=>none))
 (none))
 (λ_ _=>none))
 (none))
 (λ_ _=>none))
 (none))
 (λ_ _=>none))
 (none))
 (λ_ _=>none))))
 (none))
 (λ_ _=>none)))
 (none))
 (λ_ _=>none)))
 (none))
 (λ_ _=>none)))
 (none))
 (λ_ _=>none)))
 (none))
 (λ_ _=>none)))))))
 (none))
 (λ_ _=>none))
 (none))
 (λ_ _=>none))
 (none))
 (λ_ _=>none))
 (none))
 (λ_ _=>none))
 (none))
 (λ_ _=>none))
 (none))
 (λ_ _=>none))
 (none))
 (λ_ _=>none))
 (none))
 (λ_ _=>none))
 (none))
 (λ_ _=>none) :=
 (zM (f:=33) (by kernel_rfl) (by kernel_rfl) (by kernel_rfl) []).trans (by kernel_rfl)
end Go.Am
namespace Go.Am
open Go.Proofs
open Go
class KnO[OO]:Prop where
 order:∀(s:Si) (n:Int),zB 68 [eSi s,eI n]=some (.val (.tup [.sl 1 ((Jo s n).1.map eN),eI (Jo s n).2]))
variable[OO]
def lossP(lo fr:Int):Int×Int:=(Int.tdiv lo (Nat.gcd lo.toNat fr.toNat),Int.tdiv fr (Nat.gcd lo.toNat fr.toNat))
theorem l85(fr lo:Int)(h1:0<=fr/\fr<=1000000000000000000)(h2:0<=lo/\lo<=1000000000000000000):∀(b a:Nat),0<a\/0<b ->
  zIg fr lo a b=some (.val (.tup [.agg 1 [eI (Int.tdiv lo (Nat.gcd a b)),eI (Int.tdiv fr (Nat.gcd a b))],eI 0])):=by
 intro b;induction b using Nat.strongRecOn with
 | _ b ih =>
  intro a h0;rw[L85_0a_eq];by_cases hb:b=0
  ·subst hb;have ha:0<a:=by omega
   have hb0:(bne (((0:Nat):Int)) 0)=false:=rfl;have hbeq:((a:Int) == 0)=false:=by simp;omega
   have hw:∀x:Int,0<=x->x<=1000000000000000000->IntKind.i64.wrap (Int.tdiv x (a:Int))=Int.tdiv x (a:Int):=by
    intro x hx hx';have e:Int.tdiv x (a:Int)=x / (a:Int):=Int.tdiv_eq_ediv_of_nonneg hx;have q1:=Int.ediv_nonneg hx (show(0:Int)<=(a:Int) by omega)
    have q2:=Int.ediv_le_self (a:Int) hx;rw[e];exact wr _ (by omega)
   rw[hb0];simp only[zT,hbeq,Bool.not_false,zF,Nat.gcd_zero_right,hw lo h2.1 h2.2,hw fr h1.1 h1.2]
  ·have hb0:(bne ((b:Nat):Int) 0)=true:=bne1 (by omega)
   have hbeq:((b:Int) == 0)=false:=by simp;omega
   have e:Int.tmod (a:Int) (b:Int)=((a % b:Nat):Int):=by rw[Int.tmod_eq_emod_of_nonneg (by omega)];simp
   have hlt:=Nat.mod_lt a (show 0<b by omega)
   rw[hb0];simp only[zF,hbeq,Bool.not_false,e];have hg:Nat.gcd b (a % b)=Nat.gcd a b:=by rw[Nat.gcd_comm a b,Nat.gcd_rec b a,Nat.gcd_comm]
   rw[ih (a % b) hlt b (by omega),hg]
def zIU(f:Fm):Int:=zO [J5 f,if (Yc f == 0)=true then 6 else 0]
theorem zJu{f:Fm}(h:J5 f=0)(hr:zv f.r):0<=enF f 0/\enF f 0<=Yc f/\Yc f<=100000000000000000:=by obtain⟨hv,hs⟩:=jn h hr;obtain⟨_,_,h3,_⟩:=YQ h;have hi:=(qp f.c.p (Yj h3).2).1;have b1:=qo hv.c f.w hv.l 0 hr hv.q;have b2:=qo hv.c wkFree hv.l 0 hr hv.q;have b3:=zEP hv.w hv.c hi hr hv.q (JA f.s);unfold enF Yc;rw[if_pos h,if_pos h];omega
theorem c85[KnW](f:Fm)(h:zv f.r):zB 85 [eFm f]=some (.val (.tup [.agg 1 [eI (if zIU f=0 then (lossP (Yc f - enF f 0) (Yc f)).1 else 0),eI (if zIU f=0 then (lossP (Yc f - enF f 0) (Yc f)).2 else 0)],eI (zIU f)])):=by
 rw[C85];simp only[zL,zN,hFm f h,Bool.and_self,zF,zV,zY,zb,zq,zy,zl,zK,zQ,c84 f h,zJ,zz,jD,h3,h46,c169,zAP];by_cases h0:zIU f=0
 ·obtain⟨k1,k2⟩:=jH h0;obtain⟨hv,hs⟩:=jn k1 h;have hl:=hv.l;rw[jp] at hl;have hen:Jl f.w f.c f.r (JA f.s) 0=enF f 0:=by unfold enF;rw[if_pos k1]
  have hb:=zJu k1 h;have hz:¬Yc f=0:=by intro hz;simp[hz,zO] at k2
  have key:=l85 (Yc f) (Yc f - enF f 0) (by omega) (by omega) (Yc f).toNat (Yc f - enF f 0).toNat (by omega)
  rw[show(((Yc f).toNat:Nat):Int)=Yc f by omega,show(((Yc f - enF f 0).toNat:Nat):Int)=Yc f - enF f 0 by omega] at key
  refine(congrArg (λb=>ifO b _ _) (show bne (zIU f) 0=false from bne0 h0)).trans ?_
  simp only[zT,c144 f h,zJ,hMd _ _ _ h,zF,c146 f.s (by omega),h81,zQ,zV,zY,zb,zq,zl,zK,c145 hv 0 (by omega),h3,hen,wr (Yc f - enF f 0) (by omega),key,if_pos h0,lossP]
  rw[h0]
 ·refine(congrArg (λb=>ifO b _ _) (show bne (zIU f) 0=true from bne1 h0)).trans ?_
  simp only[zF,if_neg h0];rfl
def in64'(x:Int):Prop:=-9223372036854775808<=x/\x<=9223372036854775807
def itB(n:Int):ByteArray:=⟨(Lib.itoa n).toArray⟩
theorem itB_size(n:Int)(h0:-9223372036854775808<=n)(h1:n<=9223372036854775807):(itB n).size<=21:=Lib.itoa_length_le n h0 h1
def textB(c:Cu):ByteArray:=⟨(Lib.join ((c.cut :: c.p).map Lib.itoa) [32]).toArray⟩
section
variable[KnS]
theorem l209b(l:List Int)(hl:l.length<=1000)(hb:∀x∈l,in64' x):∀k,k<=l.length->zFO 210 [] [] ((l.take k).map λn=>.str (itB n)) (l.map eI) l.length k=some (.val (.sl 1 ((l.map itB).map .str))):=by
 apply down
 ·rw[zFN];simp;exact(List.take_of_length_le (by simp)).trans (by simp)
 ·intro k hk ih;have e1:(k:Int)<l.length:=by omega
  have hx:=KnS.itoa l[k] (hb _ (List.getElem_mem hk)).1 (hb _ (List.getElem_mem hk)).2;have hx':zB 210 (zu EE 210 [eI l[k]])=some (.val (.str (itB l[k]))):=(congrArg (zB 210) (show zu EE 210 [eI l[k]]=[eI l[k]] by kernel_rfl)).trans hx
  have hm:min k l.length=k:=by omega
  have e2:(2 * (k+1)+200) * 16<=281474976710656:=by omega
  have e0:(0:Int)<=(k:Int):=by omega
  rw[<-ih,zFN];simp only[zX];simp only[List.length_map,List.length_take,hm,e1,e0,e2,and_self,if_true,Int.toNat_natCast,zP _ l k hk,h3,zF,zK,List.nil_append,List.append_nil,hx',zJ,h9,zl];rw[wr ((k:Int)+1) (by omega),List.take_succ_eq_append_getElem hk,List.map_append]
  rfl
theorem c209(l:List Int)(hl:l.length<=1000)(hb:∀x∈l,in64' x):zB 209 [.sl 1 (l.map eI),.fn 210 [] []]=some (.val (.sl 1 ((l.map itB).map .str))):=by
 rw[C209];simp only[zL,zN,h25,h280,Bool.and_self,zF,zQ,Yx,Qb,Qa,List.length_map];rw[L209_0a_eq];simp only[zX];by_cases h:l=[]
 ·simp[h]
 ·have h0:0<l.length:=List.length_pos_iff.2 h;have h1:=l209b l hl hb 1 (by omega)
  have hx:=KnS.itoa l[0] (hb _ (List.getElem_mem h0)).1 (hb _ (List.getElem_mem h0)).2;have hx':zB 210 (zu EE 210 [eI l[0]])=some (.val (.str (itB l[0]))):=(congrArg (zB 210) (show zu EE 210 [eI l[0]]=[eI l[0]] by kernel_rfl)).trans hx
  have e1:(0:Int)<l.length:=by omega
  rw[tk1 l h0] at h1;simp only[List.length_map,e1,Int.le_refl,and_self,if_true,zP _ l 0 h0,h3,zF,zK,List.nil_append,List.append_nil,hx',zJ,h9,zl];simpa using h1
theorem c108(c:Cu):zB 108 [eCu c]=some (.val (.tup [.str (if YJ c=0 then textB c else bs []),eI (YJ c)])):=by
 rw[C108];simp only[zL,zN,h60,Bool.and_self,zF,zV,zY,zb,zQ,zK,c114,zJ,h46];by_cases h:YJ c=0
 ·obtain⟨⟨hl,hl',hp,hc⟩,_⟩:=Yj h;have hb:∀x∈c.cut :: c.p,in64' x:=by
   intro x hx;rcases List.mem_cons.1 hx with rfl | hx
   ·exact⟨by omega,by omega⟩
   ·have:=hp x hx;exact⟨by omega,by omega⟩
  have h209:=c209 (c.cut :: c.p) (by simp;omega) hb
  have hj:=KnS.join ((c.cut :: c.p).map itB) (bs [32]) (by simp;omega) (λx hx=>by
   obtain⟨n,hn,rfl⟩:=List.mem_map.1 hx;have:=itB_size n (hb n hn).1 (hb n hn).2;omega) (by decide)
  have htk:List.take ([DV.int .i64 c.cut]++c.p.map eI).length ([DV.int .i64 c.cut]++c.p.map eI)=(c.cut :: c.p).map eI:=by rw[List.take_length];rfl
  have e1:(2 * (1+c.p.length)+200) * 8<=281474976710656:=by omega
  simp only[bne0 h,zT,List.length_map,e1,decide_true,zF,Nat.zero_add,Nat.le_refl,List.drop_zero,htk,h209,zJ,h173,zQ,hj,h9,zl,if_pos h];rw[h];have e:(List.map (λx=>x.data.toList) (List.map itB (c.cut :: c.p)))=(c.cut :: c.p).map Lib.itoa:=by rw[List.map_map];exact List.map_congr_left λn _=>by simp[itB]
  have e':(bs [32]).data.toList=[32]:=by decide
  rw[e,e'];rfl
 ·simp only[bne1 h,zF,if_neg h]
end
end Go.Am
