/- WakeLess: for every input the law returns true, and each argument reads afterwards as it read before. Part 9. -/
import Derived.Test.YtojkhldombndpaaGreatDoorWS8
set_option linter.all false
namespace Go.Am
open Go.Proofs
open Go
variable[OO]
theorem C13(x0 x1:DV):zB 13 [x0,x1] =
 ifO (zS (zH EE 6) [34,72] [x0,x1])
 (zI (zB 33 [])
 (λr0=>ifO (zH EE 6 4 r0)
 (ifO (!(YI r0))
 (zI (zB 33 [])
 (λr1=>ifO (zH EE 6 4 r1)
 (some (.val (.bool (YI r1))))
 (none))
 (λ_ _=>none))
 (zI (zB 21 [(.agg 4 [(.agg 0 [(.str (ze (nth (flds (nth (flds x0) 0)) 0))),(eI (zC (nth (flds (nth (flds x0) 0)) 1))),(.sl 3 (elems (nth (flds (nth (flds x0) 0)) 2)))]),(.agg 0 [(.str (ze (nth (flds (nth (flds x0) 1)) 0))),(.sl 1 (elems (nth (flds (nth (flds x0) 1)) 1))),(.sl 1 (elems (nth (flds (nth (flds x0) 1)) 2)))]),(.agg 1 [(.sl 1 (elems (nth (flds (nth (flds x0) 2)) 0))),(eI (zC (nth (flds (nth (flds x0) 2)) 1)))]),(.agg 3 (flds (nth (flds x0) 3)))]),(eI 6)])
 (λr4=>ifO (zH EE 6 4 r4)
 (ifO (!(YI r4))
 (zI (zB 33 [])
 (λr5=>ifO (zH EE 6 4 r5)
 (some (.val (.bool (YI r5))))
 (none))
 (λ_ _=>none))
 (zI (zB 22 [(.agg 4 [(.agg 0 [(.str (ze (nth (flds (nth (flds x0) 0)) 0))),(eI (zC (nth (flds (nth (flds x0) 0)) 1))),(.sl 3 (elems (nth (flds (nth (flds x0) 0)) 2)))]),(.agg 0 [(.str (ze (nth (flds (nth (flds x0) 1)) 0))),(.sl 1 (elems (nth (flds (nth (flds x0) 1)) 1))),(.sl 1 (elems (nth (flds (nth (flds x0) 1)) 2)))]),(.agg 1 [(.sl 1 (elems (nth (flds (nth (flds x0) 2)) 0))),(eI (zC (nth (flds (nth (flds x0) 2)) 1)))]),(.agg 3 (flds (nth (flds x0) 3)))])])
 (λr8=>ifO (zH EE 6 3 r8)
 (ifO (bne (zC r8) 0)
 (zI (zB 33 [])
 (λr9=>ifO (zH EE 6 4 r9)
 (some (.val (.bool (YI r9))))
 (none))
 (λ_ _=>none))
 (ifO ((((List.length (elems (nth (flds (nth (flds x0) 0)) 2))):Nat):Int) == (0:Int))
 (zI (zB 33 [])
 (λr12=>ifO (zH EE 6 4 r12)
 (some (.val (.bool (YI r12))))
 (none))
 (λ_ _=>none))
 (zI (zB 65 [(.agg 0 [(.str (ze (nth (flds (nth (flds x0) 0)) 0))),(eI (zC (nth (flds (nth (flds x0) 0)) 1))),(.sl 3 (elems (nth (flds (nth (flds x0) 0)) 2)))])])
 (λr15=>ifO (zH EE 6 58 r15)
 (zI (zB 67 [(.agg 0 [(.str (ze (nth (flds (nth (flds x0) 1)) 0))),(.sl 1 (elems (nth (flds (nth (flds x0) 1)) 1))),(.sl 1 (elems (nth (flds (nth (flds x0) 1)) 2)))])])
 (λr16=>ifO (zH EE 6 59 r16)
 (zI (zB 76 [(.agg 0 [(.str (ze (nth (flds r15) 0))),(eI (zC (nth (flds r15) 1))),(.sl 3 (elems (nth (flds r15) 2)))]),(.agg 0 [(.str (ze (nth (flds r16) 0))),(.sl 1 (elems (nth (flds r16) 1))),(.sl 1 (elems (nth (flds r16) 2)))]),(eI (Int.tmod (IntKind.wrap .i64 ((Int.tmod (zC (nth (flds x1) 0)) (8:Int))+(8:Int))) (8:Int)))])
 (λr17=>ifO ((DV.isTup r17) && (zS (zH EE 6) [95,46] (tups r17)))
 (zI (zB 65 [(.agg 0 [(.str (ze (nth (flds (nth (flds x0) 0)) 0))),(eI (zC (nth (flds (nth (flds x0) 0)) 1))),(.sl 3 (elems (nth (flds (nth (flds x0) 0)) 2)))])])
 (λr18=>ifO (zH EE 6 58 r18)
 (zI (zB 68 [(.agg 0 [(.str (ze (nth (flds r18) 0))),(eI (zC (nth (flds r18) 1))),(.sl 3 (elems (nth (flds r18) 2)))]),(eI (Int.tmod (IntKind.wrap .i64 ((Int.tmod (zC (nth (flds x1) 0)) (8:Int))+(8:Int))) (8:Int)))])
 (λr19=>ifO ((DV.isTup r19) && (zS (zH EE 6) [25,46] (tups r19)))
 (ifO (bne (zC (nth (tups r17) 1)) (0:Int))
 (some (.val (.bool false)))
 (ifO (bne (zC (nth (tups r19) 1)) (0:Int))
 (some (.val (.bool false)))
 (ifO (bne (((List.length (elems (nth (tups r17) 0))):Nat):Int) (((List.length (elems (nth (flds (nth (flds x0) 0)) 2))):Nat):Int))
 (some (.val (.bool false)))
 (zI (zB 91 [(.sl 1 (elems (nth (tups r19) 0))),(eI (((List.length (elems (nth (flds (nth (flds x0) 0)) 2))):Nat):Int))])
 (λr20=>ifO (zH EE 6 4 r20)
 (ifO (!(YI r20))
 (some (.val (.bool false)))
 ((zGi (Int.tmod (IntKind.wrap .i64 ((Int.tmod (zC (nth (flds x1) 0)) (8:Int))+(8:Int))) (8:Int)) (Int.tmod (IntKind.wrap .i64 ((Int.tmod (zC (nth (flds x1) 3)) (51:Int))+(51:Int))) (51:Int)) (((List.length (elems (nth (flds (nth (flds x0) 0)) 2))):Nat):Int) (elems (nth (tups r17) 0)) (elems (nth (tups r19) 0)) (((List.length (elems (nth (tups r19) 0))):Nat):Int) (0:Int) (ze (nth (flds (nth (flds x0) 0)) 0)) (zC (nth (flds (nth (flds x0) 0)) 1)) (elems (nth (flds (nth (flds x0) 0)) 2)) (ze (nth (flds (nth (flds x0) 1)) 0)) (elems (nth (flds (nth (flds x0) 1)) 1)) (elems (nth (flds (nth (flds x0) 1)) 2)) (elems (nth (flds (nth (flds x0) 2)) 0)) (zC (nth (flds (nth (flds x0) 2)) 1)) (flds (nth (flds x0) 3)) [(eI 0),(eI 0),(eI 0),(eI 0),(eI 0),(eI 0)])))
 (none))
 (λ_ _=>none)))))
 (none))
 (λ_ _=>none))
 (none))
 (λ_ _=>none))
 (none))
 (λ_ _=>none))
 (none))
 (λ_ _=>none))
 (none))
 (λ_ _=>none))))
 (none))
 (λ_ _=>none)))
 (none))
 (λ_ _=>none)))
 (none))
 (λ_ _=>none))
 (none) :=
 (zM (f:=13) (by kernel_rfl) (by kernel_rfl) (by kernel_rfl) [x0,x1]).trans (by kernel_rfl)
end Go.Am
namespace Go.Am
open Go.Proofs
open Go
variable[OO]
abbrev eDr(r:List Int):DV:=.sl 1 (r.map eI)
section
variable(f:Fm)(sec sp:Int)
theorem l13_0(n:Int)(A:List DV)(o:List Nat)(ho:∀i∈o,i<6)(hl:o.length<=100):∀k,k<=o.length->∀P:List DV,P.length=6 ->
  zGi sec sp n A (o.map eN) o.length k f.s.name f.s.least (f.s.tb.map eTb) f.w.rule (f.w.d.map eI) (f.w.w.map eI) (f.c.p.map eI) f.c.cut (f.r.map jj) P =
  zCL sec sp n A (A.length:Nat) 0 f.s.name f.s.least (f.s.tb.map eTb) f.w.rule (f.w.d.map eI) (f.w.w.map eI) (f.c.p.map eI) f.c.cut (f.r.map jj) (YX P k (o.drop k)):=by
 refine down (P:=λk=>∀P:List DV,P.length=6 ->
  zGi sec sp n A (o.map eN) o.length k f.s.name f.s.least (f.s.tb.map eTb) f.w.rule (f.w.d.map eI) (f.w.w.map eI) (f.c.p.map eI) f.c.cut (f.r.map jj) P =
  zCL sec sp n A (A.length:Nat) 0 f.s.name f.s.least (f.s.tb.map eTb) f.w.rule (f.w.d.map eI) (f.w.w.map eI) (f.c.p.map eI) f.c.cut (f.r.map jj) (YX P k (o.drop k))) o.length ?_ ?_
 ·intro P hP;rw[zHi];simp only[Int.lt_irrefl,decide_false,zT,List.drop_length,YX]
 ·intro k hk ih P hP;have e1:(k:Int)<o.length:=by omega
  have e0:(0:Int)<=(k:Int):=by omega
  have hx:=ho o[k] (List.getElem_mem hk);have e2:(0:Int)<=(o[k]:Int)/\(o[k]:Int)<6:=by omega
  have hag:jQ 11 o[k] (.agg 11 P)=true:=by simp[jQ];omega
  rw[zHi,zi o k hk];simp only[List.length_map,e1,e0,and_self,decide_true,zF,Int.toNat_natCast,zP _ o k hk,h3,zK,e2.1,e2.2,hag,hx];rw[wr ((k:Int)+1) (by omega),show((k:Int)+1)=((k+1:Nat):Int) by omega,ih _ (by rw[List.length_set];exact hP)]
  rfl
variable(hw:zCm f.w)(ps:List Pt)(st:Pt)(P:List DV)(hP:P.length=6)(hn6:ps.length<=6)
 (hP1:∀i j,i<ps.length->j<ps.length->qr (ps.getD i default) st<qr (ps.getD j default) st->∃a b:Nat,nth P i=eN a/\nth P j=eN b/\a<b)
include hw hP hn6 hP1
theorem l13_2(j:Nat)(hj:j<ps.length):∀i,i<=ps.length ->
  zGh sec sp (ps.length:Nat) ((wakesP f.w ps sec st).map eDr) j (ps.length:Nat) (ps.length:Nat) i f.s.name f.s.least (f.s.tb.map eTb) f.w.rule (f.w.d.map eI) (f.w.w.map eI) (f.c.p.map eI) f.c.cut (f.r.map jj) P =
  zCL sec sp (ps.length:Nat) ((wakesP f.w ps sec st).map eDr) (ps.length:Nat) ((j+1:Nat):Int) f.s.name f.s.least (f.s.tb.map eTb) f.w.rule (f.w.d.map eI) (f.w.w.map eI) (f.c.p.map eI) f.c.cut (f.r.map jj) P:=by
 have hwl:(wakesP f.w ps sec st).length=ps.length:=by simp[wakesP]
 have hrow:∀k (h:k<(wakesP f.w ps sec st).length),(wakesP f.w ps sec st)[k]=jZ f.w ps sec st k:=λk h=>by simp[wakesP]
 apply down
 ·rw[zHg];simp only[Int.lt_irrefl,decide_false,zT];rw[wr ((j:Int)+1) (by omega),show((j:Int)+1)=((j+1:Nat):Int) by omega]
 ·intro i hi ih;have e1:(i:Int)<ps.length:=by omega
  have e0:(0:Int)<=(i:Int):=by omega
  have j1:(j:Int)<ps.length:=by omega
  have j0:(0:Int)<=(j:Int):=by omega
  have i6:(i:Int)<6:=by omega
  have j6:(j:Int)<6:=by omega
  have ni:nth ((wakesP f.w ps sec st).map eDr) i=eDr (jZ f.w ps sec st i):=by rw[zP _ _ i (by omega),hrow]
  have nj:nth ((wakesP f.w ps sec st).map eDr) j=eDr (jZ f.w ps sec st j):=by rw[zP _ _ j (by omega),hrow]
  have li:=Q8 f.w ps sec st i;have lj:=Q8 f.w ps sec st j;have hx:=(J9 hw ps sec st j _ (List.getElem_mem (show i<(jZ f.w ps sec st j).length by omega))).1
  have xji:nth ((jZ f.w ps sec st j).map eI) i=eI ((jZ f.w ps sec st j)[i]'(by omega)):=zP _ _ i (by omega)
  have xij:nth ((jZ f.w ps sec st i).map eI) j=eI ((jZ f.w ps sec st i)[j]'(by omega)):=zP _ _ j (by omega)
  have hneg:¬(jZ f.w ps sec st j)[i]'(by omega)<0:=by omega
  rw[zHg];simp only[List.length_map,hwl,e1,e0,j1,j0,and_self,decide_true,zF,Int.toNat_natCast,ni,nj,h25,zQ,li,lj,bne_self_eq_false,zT,xji,xij,h3,zK,hneg,decide_false];rw[wr ((i:Int)+1) (by omega),show((i:Int)+1)=((i+1:Nat):Int) by omega]
  by_cases hpos:0<(jZ f.w ps sec st j)[i]'(by omega)
  ·obtain⟨hz,hal⟩:=one_way hw ps sec st hi hj hpos;obtain⟨a,b,pa,pb,hab⟩:=hP1 i j hi hj hal;have hgi:jQ 11 i (.agg 11 P)=true:=by simp[jQ];omega
   have hgj:jQ 11 j (.agg 11 P)=true:=by simp[jQ];omega
   have hge:¬((a:Int)>=(b:Int)):=by omega
   have hpos':(jZ f.w ps sec st j)[i]'(by omega)>0:=hpos
   simp only[hpos',decide_true,zF,hz,bne_self_eq_false,zT,i6,j6,e0,j0,and_self,hgi,hgj,pa,pb,h3,zK,hge,decide_false];exact ih
  ·have hpos':¬(jZ f.w ps sec st j)[i]'(by omega)>0:=hpos
   simp only[hpos',decide_false,zT];exact ih
theorem l13_1:∀j,j<=ps.length ->
  zCL sec sp (ps.length:Nat) ((wakesP f.w ps sec st).map eDr) (ps.length:Nat) j f.s.name f.s.least (f.s.tb.map eTb) f.w.rule (f.w.d.map eI) (f.w.w.map eI) (f.c.p.map eI) f.c.cut (f.r.map jj) P =
  zIk sec sp (ps.length:Nat) ((wakesP f.w ps sec st).map eDr) [.str rG,.str rS,.str rM] 3 f.s.name f.s.least (f.s.tb.map eTb) f.w.rule (f.w.d.map eI) (f.w.w.map eI) (f.c.p.map eI) f.c.cut (f.r.map jj):=by
 have hwl:(wakesP f.w ps sec st).length=ps.length:=by simp[wakesP]
 have hrow:∀k (h:k<(wakesP f.w ps sec st).length),(wakesP f.w ps sec st)[k]=jZ f.w ps sec st k:=λk h=>by simp[wakesP]
 apply down
 ·rw[zHh];simp only[Int.lt_irrefl,decide_false,zT,C92,zJ,h173,zF,zQ];rfl
 ·intro j hj ih;have j1:(j:Int)<ps.length:=by omega
  have j0:(0:Int)<=(j:Int):=by omega
  have nj:nth ((wakesP f.w ps sec st).map eDr) j=eDr (jZ f.w ps sec st j):=by rw[zP _ _ j (by omega),hrow]
  have lj:=Q8 f.w ps sec st j;have h2:=l13_2 f sec sp hw ps st P hP hn6 hP1 j hj 0 (Nat.zero_le _);rw[zHh];simp only[List.length_map,hwl,j1,j0,and_self,decide_true,zF,Int.toNat_natCast,nj,h25,zQ,lj,bne_self_eq_false,zT];exact h2.trans ih
end
def ruleW(w:Wk)(rule:ByteArray):Wk:=⟨rule,w.d,w.w⟩
theorem wakeE_rule{w:Wk}(h:wakeE w=0){rule:ByteArray}(hr:jq rule=true):wakeE (ruleW w rule)=0:=by
 unfold wakeE at h ⊢;have hH:wakeH (ruleW w rule)=0\/wakeH w≠0:=by
  by_cases h0:wakeH w=0
  ·left;obtain⟨h1,h2,h3,h4⟩:=YQ h0;show zO [if jq rule then 0 else 13,if w.d=[] then 12 else 0,if (32:Int)<w.d.length then 5 else 0,if (w.w.length:Int)=w.d.length then 0 else 2]=0
   rw[hr,h2,h3,h4];rfl
  ·exact .inr h0
 by_cases h0:wakeH w=0
 ·rw[if_pos h0] at h;rcases hH with hH | hH
  ·rw[if_pos hH];exact h
  ·exact absurd h0 hH
 ·rw[if_neg h0] at h;exact absurd h h0
def Yr(f:Fm):Fm:=⟨⟨f.s.name,f.s.least,f.s.tb.take (f.s.tb.length - 1)⟩,f.w,f.c,f.r⟩
theorem farmE_less{f:Fm}(h:J5 f=0):J5 (Yr f)=0:=by obtain⟨h1,h2,h3,h4⟩:=YQ h;show zO [jb ⟨f.s.name,f.s.least,f.s.tb.take (f.s.tb.length - 1)⟩,wakeE f.w,YJ f.c,Qv f.r]=0;rw[siteE_take h1,h2,h3,h4];rfl
theorem psOf_less(f:Fm):JA (Yr f).s=(JA f.s).take (f.s.tb.length - 1):=by show(f.s.tb.take _).map _=(f.s.tb.map _).take _;rw[List.map_take]
theorem powF_less{f:Fm}(h:J5 f=0)(hr:zv f.r)(sec v:Int)(hv:0<=v)(j:Nat)(hj:j<f.s.tb.length - 1):(zBe f sec v).getD j 0<=(zBe (Yr f) sec v).getD j 0:=by
 obtain⟨hv',_⟩:=jn h hr;obtain⟨_,_,h3,_⟩:=YQ h;have hi:=(qp f.c.p (Yj h3).2).1;unfold zBe;show(if v>=f.c.cut then List.replicate f.s.tb.length 0 else _).getD j 0<=(if v>=f.c.cut then List.replicate (Yr f).s.tb.length 0 else Ym f.w f.c (JA (Yr f).s) sec v 0).getD j 0
 by_cases hc:v>=f.c.cut
 ·rw[if_pos hc,if_pos hc];simp only[List.getD_eq_getElem?_getD,List.getElem?_replicate];split <;> split <;> exact Int.le_refl 0
 ·rw[if_neg hc,if_neg hc,psOf_less];exact zHq hv'.w hv'.c.1 hi (JA f.s) sec v hv (f.s.tb.length - 1) (by rw[jp];omega) j hj
section
variable[KnW](f:Fm)(hr:zv f.r)(hF:J5 f=0)(sec sp:Int)(hsec:zZ sec 0 7=0)(hsp:zZ sp 0 50=0)(h6:f.s.tb.length<=6)(h0:0<f.s.tb.length)(l2:f.w.d.length<=33)(l3:f.w.w.length<=33)(l4:f.c.p.length<=52)
include hr hF hsec hsp h6 h0 l2 l3 l4
abbrev cR(f:Fm)(sec:Int)(rule:ByteArray):List Int:=je (ruleW f.w rule) (JA f.s) sec (zo sec)
theorem fin13:zD8 (f.s.tb.length:Nat) ((wakesP f.w (JA f.s) sec (zo sec)).map eDr) ((zBe f sec sp).map eI) ((zBe (Yr f) sec sp).map eI) (f.s.tb.length:Nat) f.s.name f.s.least (f.s.tb.map eTb) f.w.rule (f.w.d.map eI) (f.w.w.map eI) (f.c.p.map eI) f.c.cut (f.r.map jj)
  ((cR f sec rG).map eI) ((cR f sec rS).map eI) ((cR f sec rM).map eI)=some (.val (.bool true)):=by
 have e34:=c34 f hr (by omega) (by omega) (by omega) (by omega)
 obtain⟨b1,b2,b3⟩:=zJu hF hr;have b4:enF f 0<=enF f 1:=by obtain⟨hv,hs⟩:=jn hF hr;obtain⟨_,_,h3,_⟩:=YQ hF;have hi:=(qp f.c.p (Yj h3).2).1;unfold enF;rw[if_pos hF,if_pos hF];exact zEO hv.w hv.c hi hr hv.q (JA f.s)
 have b1':enF f 0>=0:=b1;have h156a:∀x y:Int,zH EE 6 156 (.agg 1 [eI x,eI y])=true:=λx y=>by rw[h156];rfl
 have g0:∀x y:Int,jQ 1 0 (.agg 1 [eI x,eI y])=true:=λ_ _=>rfl
 have g1:∀x y:Int,jQ 1 1 (.agg 1 [eI x,eI y])=true:=λ_ _=>rfl
 have b4':enF f 1>=enF f 0:=b4;rw[zHf];simp only[Int.lt_irrefl,decide_false,zT,e34,zJ,hFm f hr,zF,zV,zY,zb,zq,zy,zl,zK,zQ,c30 f hr,c84 f hr,c83 f hr,zz,jD,zL,zN,h3,h46,h156a,Bool.and_self,hF,beq_self_eq_true,b1',b2,b4',decide_true,g0,g1]
theorem l13_4:∀j,j<=f.s.tb.length->zD8 (f.s.tb.length:Nat) ((wakesP f.w (JA f.s) sec (zo sec)).map eDr) ((zBe f sec sp).map eI) ((zBe (Yr f) sec sp).map eI) j f.s.name f.s.least (f.s.tb.map eTb) f.w.rule (f.w.d.map eI) (f.w.w.map eI) (f.c.p.map eI) f.c.cut (f.r.map jj)
  ((cR f sec rG).map eI) ((cR f sec rS).map eI) ((cR f sec rM).map eI)=some (.val (.bool true)):=by
 obtain⟨hv,_⟩:=jn hF hr;have hpl:(JA f.s).length=f.s.tb.length:=jp f.s;have hwl:(wakesP f.w (JA f.s) sec (zo sec)).length=f.s.tb.length:=by simp[wakesP,hpl]
 have hcl:∀rule,(cR f sec rule).length=f.s.tb.length:=λrule=>by rw[jK,hpl]
 have hpw:=zCV f sec sp;have hpm:(zBe (Yr f) sec sp).length=f.s.tb.length - 1:=by rw[zCV];show(f.s.tb.take _).length=_;simp
 apply down
 ·exact fin13 f hr hF sec sp hsec hsp h6 h0 l2 l3 l4
 ·intro j hj ih;have e1:(j:Int)<f.s.tb.length:=by omega
  have e0:(0:Int)<=(j:Int):=by omega
  obtain⟨g1,g2,g3,m1,m2,m3,m4⟩:=comb_rules hv.w (JA f.s) sec (zo sec) j (by omega)
  generalize hrr:jZ f.w (JA f.s) sec (zo sec) j=row at g1 g2 g3 m1 m2 m3 m4;have nG:nth ((cR f sec rG).map eI) j=eI (YM (Y3 0 row)):=by
   have hl:=hcl rG;rw[zP _ _ j (by omega),<-g1,List.getD_eq_getElem?_getD,List.getElem?_eq_getElem (show j<(je ⟨rG,f.w.d,f.w.w⟩ (JA f.s) sec (zo sec)).length by rw[jK];omega)]
   rfl
  have nS:nth ((cR f sec rS).map eI) j=eI (YM (J1 (z1 (sqI row)))):=by
   have hl:=hcl rS;rw[zP _ _ j (by omega),<-g2,List.getD_eq_getElem?_getD,List.getElem?_eq_getElem (show j<(je ⟨rS,f.w.d,f.w.w⟩ (JA f.s) sec (zo sec)).length by rw[jK];omega)]
   rfl
  have nM:nth ((cR f sec rM).map eI) j=eI (YM (z1 row)):=by
   have hl:=hcl rM;rw[zP _ _ j (by omega),<-g3,List.getD_eq_getElem?_getD,List.getElem?_eq_getElem (show j<(je ⟨rM,f.w.d,f.w.w⟩ (JA f.s) sec (zo sec)).length by rw[jK];omega)]
   rfl
  have nj:nth ((wakesP f.w (JA f.s) sec (zo sec)).map eDr) j=eDr row:=by
   rw[zP _ _ j (by omega),<-hrr]
   simp[wakesP]
  have hrow:∀x∈row,0<=x/\x<=1000000:=λx hx=>by rw[<-hrr] at hx;have:=J9 hv.w (JA f.s) sec (zo sec) j x hx;omega
  have hrl:row.length<=1000:=by rw[<-hrr,Q8];omega
  have e93:=c93 row hrl hrow;have hcap:∀i:Decidable ((256:Int)<z1 row),@ite Int ((256:Int)<z1 row) i 256 (z1 row)=YM (z1 row):=λi=>by unfold YM;split <;> split <;> omega
  have p1:nth ((zBe f sec sp).map eI) j=eI ((zBe f sec sp).getD j 0):=by
   rw[zP _ _ j (by omega),List.getD_eq_getElem?_getD,List.getElem?_eq_getElem (by omega)]
   rfl
  have q1:¬YM (Y3 0 row)<0:=by omega
  have q2:¬YM (Y3 0 row)>YM (J1 (z1 (sqI row))):=by omega
  have q3:¬YM (J1 (z1 (sqI row)))>YM (z1 row):=by omega
  have q4:¬YM (z1 row)>256:=by omega
  rw[zHf];simp only[List.length_map,hcl,hwl,hpw,e1,e0,and_self,decide_true,zF,Int.toNat_natCast,nG,nS,nM,nj,h3,h25,zQ,zK,q1,q2,q3,q4,decide_false,zT,e93,zJ];rw[wr ((f.s.tb.length:Int) - 1) (by omega),wr ((j:Int)+1) (by omega),show((j:Int)+1)=((j+1:Nat):Int) by omega]
  show ifO (YM (z1 row) != (if (256:Int)<z1 row then (256:Int) else z1 row)) _ _=_
  rw[show(if (256:Int)<z1 row then (256:Int) else z1 row)=YM (z1 row) from hcap _,bne_self_eq_false,zT]
  by_cases hlast:(j:Int)<(f.s.tb.length:Int) - 1
  ·have hj1:j<f.s.tb.length - 1:=by omega
   have p2:nth ((zBe (Yr f) sec sp).map eI) j=eI ((zBe (Yr f) sec sp).getD j 0):=by
    rw[zP _ _ j (by omega),List.getD_eq_getElem?_getD,List.getElem?_eq_getElem (by omega)]
    rfl
   have hle:=powF_less hF hr sec sp (jF.1 hsp).1 j hj1;have q5:¬(zBe f sec sp).getD j 0>(zBe (Yr f) sec sp).getD j 0:=by omega
   have e2:(j:Int)<((f.s.tb.length - 1:Nat):Int):=by omega
   simp only[hlast,decide_true,zF,hpm,e0,e2,and_self,p1,p2,h3,zK,q5,decide_false,zT];exact ih
  ·simp only[hlast,decide_false,zT];exact ih
theorem rest13:zIk sec sp (f.s.tb.length:Nat) ((wakesP f.w (JA f.s) sec (zo sec)).map eDr) [.str rG,.str rS,.str rM] 3 f.s.name f.s.least (f.s.tb.map eTb) f.w.rule (f.w.d.map eI) (f.w.w.map eI) (f.c.p.map eI) f.c.cut (f.r.map jj)=some (.val (.bool true)):=by
 obtain⟨a1,a2,a3,a4⟩:=YQ hF;have hpl:(JA f.s).length=f.s.tb.length:=jp f.s;have e65:=c65 f.s (by omega)
 have e67:=c67 f.w (by omega) (by omega)
 have hchk:∀rule,jq rule=true->chk3 f.s (ruleW f.w rule) sec=0:=λrule hk=>by unfold chk3;rw[a1,wakeE_rule a2 hk,hsec];rfl
 have e77:∀rule,jq rule=true->zB 77 [eSi f.s,.agg 0 [.str rule,.sl 1 (f.w.d.map eI),.sl 1 (f.w.w.map eI)],eI sec]=some (.val (.tup [.sl 1 ((cR f sec rule).map eI),eI 0])):=λrule hk=>by have:=c77 f.s (ruleW f.w rule) sec;rw[hchk rule hk,if_pos rfl] at this;exact this
 have hcl:∀rule,(cR f sec rule).length=f.s.tb.length:=λrule=>by rw[jK,hpl]
 have step:∀rule,jq rule=true->True:=λ_ _=>trivial
 have kG:jq rG=true:=by kernel_rfl
 have kS:jq rS=true:=by kernel_rfl
 have kM:jq rM=true:=by kernel_rfl
 have t0:nth [(.str rG:DV),.str rS,.str rM] 0=.str rG:=rfl;have t1:nth [(.str rG:DV),.str rS,.str rM] 1=.str rS:=rfl;have t2:nth [(.str rG:DV),.str rS,.str rM] 2=.str rM:=rfl;have d0:decide ((0:Int)<3)=true:=rfl;have d1:decide ((1:Int)<3)=true:=rfl;have d2:decide ((2:Int)<3)=true:=rfl;have d3:decide ((3:Int)<3)=false:=rfl;have g0:decide ((0:Int)<=0/\(0:Int)<(([(.str rG:DV),.str rS,.str rM].length:Nat):Int))=true:=rfl;have g1:decide ((0:Int)<=1/\(1:Int)<(([(.str rG:DV),.str rS,.str rM].length:Nat):Int))=true:=rfl;have g2:decide ((0:Int)<=2/\(2:Int)<(([(.str rG:DV),.str rS,.str rM].length:Nat):Int))=true:=rfl;rw[L13_3a_eq,d0,zF,g0,zF,t0];simp only[h9,zF,e67,e65,zJ,h59,h58,zV,zY,zb,zq,zl,zK,zQ,e77 rG kG,zz,jD,zL,zN,h25,h46,Bool.and_self,bne_self_eq_false,zT,List.length_map,hcl];rw[L13_3b_eq,d1,zF,g1,zF,t1];simp only[h9,zF,e67,e65,zJ,h59,h58,zV,zY,zb,zq,zl,zK,zQ,e77 rS kS,zz,jD,zL,zN,h25,h46,Bool.and_self,bne_self_eq_false,zT,List.length_map,hcl];rw[L13_3c_eq,d2,zF,g2,zF,t2];simp only[h9,zF,e67,e65,zJ,h59,h58,zV,zY,zb,zq,zl,zK,zQ,e77 rM kM,zz,jD,zL,zN,h25,h46,Bool.and_self,bne_self_eq_false,zT,List.length_map,hcl];rw[L13_3d_eq,d3,zT];have e34:=c34 f hr (by omega) (by omega) (by omega) (by omega)
 have hrl:zv (Yr f).r:=hr;have hll:(Yr f).s.tb.length=f.s.tb.length - 1:=by show(f.s.tb.take _).length=_;simp
 have e34':zB 34 [.agg 4 [.agg 0 [.str f.s.name,.int .i64 f.s.least,.sl 3 ((f.s.tb.take (f.s.tb.length - 1)).map eTb)],.agg 0 [.str f.w.rule,.sl 1 (f.w.d.map eI),.sl 1 (f.w.w.map eI)],.agg 1 [.sl 1 (f.c.p.map eI),.int .i64 f.c.cut],.agg 3 (f.r.map jj)]]=some (.val (eFm (Yr f))) :=
  c34 (Yr f) hrl (by omega) (by exact Nat.le_trans l2 (by omega)) (by exact Nat.le_trans l3 (by omega)) (by exact Nat.le_trans l4 (by omega))
 have hFl:=farmE_less hF;have p0:zH6 f sec sp=0:=by unfold zH6;rw[hF,hsec,hsp];rfl
 have p0':zH6 (Yr f) sec sp=0:=by unfold zH6;rw[hFl,hsec,hsp];rfl
 have e32:=c32 f hr sec sp;have e32':=c32 (Yr f) hrl sec sp;rw[p0,if_pos rfl] at e32;rw[p0',if_pos rfl] at e32';have w1:IntKind.i64.wrap ((f.s.tb.length:Int) - 1)=((f.s.tb.length - 1:Nat):Int):=by rw[wr _ (by omega)];omega
 have u1:(0:Int)<=((f.s.tb.length - 1:Nat):Int):=by omega
 have u2:f.s.tb.length - 1<=f.s.tb.length:=by omega
 have hpw:=zCV f sec sp;have hpm:(zBe (Yr f) sec sp).length=f.s.tb.length - 1:=by rw[zCV,hll]
 rw[w1];simp only[u1,decide_true,zF,Int.toNat_natCast,Nat.zero_le,List.length_map,u2,and_self,e34,zJ,hFm f hr,zV,zY,zb,zq,zy,zl,zK,zQ,e32,zz,jD,zL,zN,h25,h46,Bool.and_self,List.drop_zero,<-List.map_take,e34',hFm (Yr f) hrl,e32',bne_self_eq_false,zT,hpw,hpm];exact l13_4 f hr hF sec sp hsec hsp h6 h0 l2 l3 l4 0 (Nat.zero_le _)
end
theorem c91N(o:List Nat)(n:Nat)(hn:n<=100000)(hl:o.length=n)(h:∀i,i<n->i∈o):zB 91 [.sl 1 (o.map eN),eN n]=some (.val (.bool true)):=by
 have:=c91 (o.map λ(i:Nat)=>(i:Int)) n hn (by rw[List.length_map];exact hl) (λi hi=>List.mem_map.2 ⟨i,h i hi,rfl⟩)
 rw[List.map_map] at this;exact this
theorem modB(a m:Int)(h0:0<m)(h1:m<=51):0<=Int.tmod (IntKind.i64.wrap (Int.tmod a m+m)) m/\Int.tmod (IntKind.i64.wrap (Int.tmod a m+m)) m<m:=by
 have b1:=Int.tmod_lt_of_pos a h0;have b2:=Int.lt_tmod_of_pos a h0;rw[wr _ (by omega),Int.tmod_eq_emod_of_nonneg (by omega)]
 exact⟨Int.emod_nonneg _ (by omega),Int.emod_lt_of_pos _ h0⟩
set_option maxHeartbeats 4000000 in
theorem law13[KnW][KnO](f:Fm)(hr:zv f.r)(a b c d:Int)(haw:zB 33 []=some (.val (.bool true))) :
  zB 13 [eFm f,.agg 5 [eI a,eI b,eI c,eI d]]=some (.val (.bool true)):=by
 obtain⟨s0,s1⟩:=modB a 8 (by omega) (by omega)
 obtain⟨v0,v1⟩:=modB d 51 (by omega) (by omega)
 rw[C13];simp only[haw,zJ,zL,zN,hFm' f hr,h72,h4,Bool.and_self,zF,z8,Bool.not_true,zT,zV,zY,zb,zq,zy,zl,zK,zQ];generalize Int.tmod (IntKind.i64.wrap (Int.tmod a 8+8)) 8=sec at s0 s1 ⊢;generalize Int.tmod (IntKind.i64.wrap (Int.tmod d 51+51)) 51=sp at v0 v1 ⊢;rw[c21 f hr 6 (by omega)]
 cases hS:zGI f 6 with
 | false=>simp only[zJ,h4,zF,z8,Bool.not_false]
 | true =>
  obtain⟨l1,l2,l3,l4⟩:=shortF_len hS;simp only[zJ,h4,zF,z8,Bool.not_true,zT,c22 f hr,h3,zK];by_cases hF:J5 f=0
  ·simp only[hF,bne_self_eq_false,zT,List.length_map];by_cases h0:f.s.tb.length=0
   ·simp only[h0,Int.natCast_zero,beq_self_eq_true,zF]
   ·have hok:=farm_ok hF hr;obtain⟨hv,hsE⟩:=jn hF hr;have hln:=(qP hsE).2.2.2.2;have h6:f.s.tb.length<=6:=by omega
    have hz:((f.s.tb.length:Int) == 0)=false:=by rw[beq_eq_false_iff_ne];omega
    have hpl:(JA f.s).length=f.s.tb.length:=jp f.s;have hsec:zZ sec 0 7=0:=jF.2 (by omega)
    have hsp:zZ sp 0 50=0:=jF.2 (by omega)
    obtain⟨a1,a2,a3,a4⟩:=YQ hF;have e65:=c65 f.s (by omega)
    have e67:=c67 f.w (by omega) (by omega)
    have e76:=c76 f.s f.w sec;have hchk:chk3 f.s f.w sec=0:=by unfold chk3;rw[a1,a2,hsec];rfl
    rw[hchk,if_pos rfl] at e76;have e68:=KnO.order f.s sec;have hoA:Jo f.s sec=(zr (JG f.s sec) f.s.tb.length,0):=by unfold Jo;rw[if_pos hsE,if_pos hsec]
    rw[hoA] at e68;have hol:=jS (JG f.s sec) f.s.tb.length;have e91:=c91N (zr (JG f.s sec) f.s.tb.length) f.s.tb.length (by omega) hol (λi hi=>(YA _ _ i).2 hi)
    have hwl:(wakesP f.w (JA f.s) sec (zo sec)).length=f.s.tb.length:=by simp[wakesP,hpl]
    simp only[hz,zT,e65,e67,zJ,h58,h59,zF,zV,zY,zb,zq,zl,zK,zQ,e76,zz,jD,zL,zN,h95,h46,Bool.and_self,e68,h25,bne_self_eq_false,List.length_map,hwl,e91,h4,z8,Bool.not_true,hol];have ho6:∀i∈zr (JG f.s sec) f.s.tb.length,i<6:=λi hi=>by have:=(YA _ _ i).1 hi;omega
    have g0:=l13_0 f sec sp (f.s.tb.length:Nat) ((wakesP f.w (JA f.s) sec (zo sec)).map eDr) _ ho6 (by omega) 0 (Nat.zero_le _) (List.replicate 6 (eI 0)) rfl
    rw[hol,List.drop_zero,List.length_map,hwl] at g0;have gt:∀i,i<f.s.tb.length->(JA f.s).getD i default=(f.s.tb.getD i default).at':=λi hi=>by
     rw[List.getD_eq_getElem?_getD,List.getD_eq_getElem?_getD,List.getElem?_eq_getElem hi,List.getElem?_eq_getElem (by omega)]
     simp[JA]
    have g1:=l13_1 f sec sp hv.w (JA f.s) (zo sec) (YX (List.replicate 6 (eI 0)) 0 (zr (JG f.s sec) f.s.tb.length)) (by rw[zEe];rfl) (by omega) (λi j hi hj hij=>by
     rw[hpl] at hi hj;rw[gt i hi,gt j hj] at hij;obtain⟨x,y,h1,h2,h3,_⟩:=place_lt (key:=JG f.s sec) (n:=f.s.tb.length) (m:=6) h6 hi hj hij (eI 0);exact⟨x,y,h1,h2,h3⟩) 0 (Nat.zero_le _)
    rw[hpl] at g1;exact g0.trans (g1.trans (rest13 f hr hF sec sp hsec hsp h6 (by omega) l2 l3 l4))
  ·have hb:(J5 f != 0)=true:=by rw[bne_iff_ne];exact hF
   simp only[hb,zF]
end Go.Am
namespace Go.Am
open Go.Proofs
open Go Go.RowKit
noncomputable def orc4(f:FuncId):Option (List DV->Option CR):=if f=267 then some (orT T267) else orc3 f
theorem orc4_ok(f:FuncId)(h:(orcF f).isNone=true):orc4 f=none:=by
 unfold orc4;split
 ·rename_i e;subst e;simp[orcF] at h
 ·exact orc3_ok f h
noncomputable abbrev oo4:OO:=⟨orc4,orc4_ok⟩
theorem env4:EnvOKo PP EE oo4.o:=by
 refine⟨zAU _ _ _,Jt,λf fn h=>E0_F _ _ _ f fn h,λf g h=>?_⟩
 have h:orc4 f=some g:=h;unfold orc4 at h;split at h
 ·rename_i e;subst e;injection h with h
  subst h;exact zBB at267
 ·exact env3.orc f g h
theorem o4{f:FuncId}(h:f≠267)(h':f≠50):oo4.o f=orc2 f:=(if_neg h:orc4 f=orc3 f).trans (o3 h')
theorem o450:oo4.o 50=some (orT T50):=(if_neg (by decide):orc4 50=orc3 50).trans o350
theorem knW4:@KnW oo4:=knW_of (o4 (f:=200) (by decide) (by decide))
theorem knO4:@KnO oo4:=knO_of (o4 (f:=68) (by decide) (by decide))
theorem knS4:@KnS oo4:=knS_of (o4 (f:=243) (by decide) (by decide)) (o4 (f:=161) (by decide) (by decide)) (o4 (f:=210) (by decide) (by decide)) (o4 (f:=208) (by decide) (by decide))
theorem c50v4{p:Pn}{gs:List (List Int)}{n:Int}(h:@V50 oo2 p gs n):@zB oo4 50 [ePn p,eGs gs,eI n]=some (.val (.tup [eI (qq p gs n).1,eI (qq p gs n).2])):=by
 refine qR (o:=oo4) (f:=50) o450 (.inl ⟨p,gs,n,h,rfl,rfl⟩) ?_;rintro r' (⟨p',gs',n',_,e,rfl⟩ | ⟨hn,_⟩)
 ·injection e with e1 e;injection e with e2 e
  injection e with e3 _;rw[ePn_inj _ _ e1,eGs_inj e2,Qe e3]
 ·exact(hn ⟨p,gs,n,h,rfl⟩).elim
theorem knB4:@KnB oo4:=@KnB.mk oo4 ((c50v4 v50S).trans (by rw[boundS]))
theorem awake4:@zB oo4 33 []=some (.val (.bool true)):=@awake oo4 knW4 knS4 knO4 knB4
end Go.Am
