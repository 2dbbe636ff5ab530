/- WakeBounds: for every input the law returns true, and each argument reads afterwards as it read before. Part 2. -/
import Derived.Test.YtojkhldombndpaaGreatDoorWB1
set_option linter.all false
open Bool renaming and_self->Aa,not_true->Ae,not_false->Ai
open List renaming length_map->Ab,getElem_cons_zero->Af,map_nil->Ak
open Go.IntKind renaming u8->Ac
open Go.Value renaming int->Ad
open Int renaming toNat_natCast->Ag
open Go.Obj renaming cells->Ah
open UInt8 renaming ofNat->Aj
namespace Go.Am
open Go.Proofs
open Go
section
variable[OO]
theorem c50_err(ho:OO.o 50=none)(p:Pn)(hr:zu p.r)(gs:List (List Int))(hl:gs.length<=1000)(hg:∀g∈gs,g.length<=1000)(n:Int)(hb:bndE p gs n≠0):zB 50 [ePn p,eGs gs,eI n]=some (.val (.tup [eI 0,eI (bndE p gs n)])):=by
 have e170:=c170 p hr gs hl hg;unfold bndE at hb ⊢;unfold eGs;rw[C50 ho];simp only[zK,zN,hPn p hr,h95,h3,Aa,zD,zQ,zS,zW,zh,zi,je,zZ,zI,zR,Ab,c160 p hr,zJ,h46];by_cases hf:zJi p=0
 ·rw[if_pos hf] at hb ⊢;rw[hf,show bne (0:Int) 0=false from rfl,zU]
  simp only[zIU,e170,zJ,h46,zD,c149,zI,Qs];rw[show bne (zT [zAM p.ps.length [] gs,zf n 0 p.ps.length]) 0=true by simpa[bne] using hb,zD]
 ·rw[if_neg hf,show bne (zJi p) 0=true by simpa[bne] using hf,zD]
theorem c171_nil(s:DV):zB 171 [.dp s,.sl 1 []]=some (.val (.mp [eI 0] [eI 0])):=by rw[C171];simp only[zK,zN,h268,h95,Aa,zD,zR,List.length_nil,QG];rw[L171_0a_eq];rfl
theorem c50_nil[KnS](ho:OO.o 50=none)(p:Pn)(hr:zu p.r)(n:Int)(hb:bndE p [] n=0):n=0/\zB 50 [ePn p,eGs [],eI n]=some (.val (.tup [eI 0,eI 0])):=by
 obtain⟨hf,hg,hn⟩:=bndE_0 hb;have h:=zH3 hf hr;have h0:p.ps.length=0:=by have:=(groupsK_0 _ [] [] hg).1;simp at this;omega
 have hn0:n=0:=by have:=zJI hn;omega
 subst hn0;have e170:=c170 p hr [] (by simp) (by simp)
 rw[hg,Ak] at e170;rw[h0] at hn;refine⟨rfl,?_⟩;unfold eGs;rw[C50 ho];simp only[zK,zN,hPn p hr,h95,h3,Aa,zD,zQ,zS,zW,zh,zi,je,zZ,zI,zR,Ab,c160 p hr,zJ,h46,hf,h0,Ak,e170,c149,hn,Qs,zT,bne_self_eq_false,zU,KnS.search p hr h.l h.v.p h.least.1 h.least.2,h268,QG,c171_nil,h278,if_true,ne_eq,not_true_eq_false,if_false];rfl
end
class KnF[OO]:Prop where
 bound:∀(p:Pn) (gs:List (List Int)) (n:Int),zu p.r->gs.length<=30->(∀g∈gs,g.length<=1000)->zB 50 [ePn p,eGs gs,eI n]=some (.val (.tup [eI (bndA p gs n).1,eI (bndA p gs n).2]))
section
variable[OO]
theorem err6(p:Pn)(gs:List (List Int))(n bad:Int)(hb:bad≠0):L6_1016a (gs.map λg=>DV.sl 1 (g.map eI)) n 0 bad bad (p.ps.map ePt) p.least p.w.rule (p.w.d.map eI) (p.w.w.map eI) (p.c.p.map eI) p.c.cut (p.r.map jC)=some (.val (.bool true)):=by
 have e42:=c42 0 bad bad 0;have:numB 0 bad bad 0=true:=by unfold numB;rw[if_pos rfl,if_neg hb];rfl
 rw[this] at e42;rw[L6_1016a_eq,beq_n hb,zU];simp only[e42,zJ,h4,zD,zp]
theorem end6[KnW][KnX](p:Pn)(hr:zu p.r)(gs:List (List Int))(hl:gs.length<=6)(hg:∀g∈gs,g.length<=6)(n:Int)(hb:bndE p gs n=0) :
  L6_1016a (gs.map λg=>DV.sl 1 (g.map eI)) n (bndA p gs n).1 (bndA p gs n).2 0 (p.ps.map ePt) p.least p.w.rule (p.w.d.map eI) (p.w.w.map eI) (p.c.p.map eI) p.c.cut (p.r.map jC)=some (.val (.bool true)):=by
 obtain⟨hf,hk,hn⟩:=bndE_0 hb;have h:=zH3 hf hr;obtain⟨_,k2,_⟩:=groupsK_0 _ gs [] hk;have hn':=zJI hn;obtain⟨m,rfl⟩:∃m:Nat,n=m:=⟨n.toNat,by omega⟩
 have hP:=h.l;have e53:=c53 p h gs (by omega) (λg hg'=>by have:=hg g hg';omega) k2 m (by omega)
 unfold eGs at e53;unfold bndA;rw[if_pos hb,Ag,L6_1016a_eq,show((0:Int) == 0)=true from rfl,zD]
 simp only[zIU,e53];cases bndR p gs m with
 | none =>
  have e42:=c42 0 24 24 0;rw[show numB 0 24 24 0=true from rfl] at e42
  simp only[eBd,zJ,z1,z8,zK,zN,h3,h4,Aa,zD,zS,zW,zp,zI,Ai,e42]
 | some v =>
  have e42:=c42 v 0 0 v;rw[show numB v 0 0 v=true by unfold numB;rw[if_pos rfl,if_pos rfl];exact decide_eq_true rfl] at e42
  simp only[eBd,zJ,z1,z8,zK,zN,h3,h4,Aa,zD,zU,zS,zW,zp,zI,Ae,e42]
theorem mid6[KnW][KnX](p:Pn)(hr:zu p.r)(gs:List (List Int))(hl:gs.length<=6)(hg:∀g∈gs,g.length<=6)(n:Int)(hf:zJi p=0) :
  L6_1014a (gs.map λg=>DV.sl 1 (g.map eI)) n (bndA p gs n).1 (bndA p gs n).2 0 (p.ps.map ePt) p.least p.w.rule (p.w.d.map eI) (p.w.w.map eI) (p.c.p.map eI) p.c.cut (p.r.map jC)=some (.val (.bool true)):=by
 have e52:=c52 p hr gs (by omega) (λg hg'=>by have:=hg g hg';omega)
 unfold eGs at e52;have hE:bndE p gs n=zT [zAM p.ps.length [] gs,zf n 0 p.ps.length]:=if_pos hf;rw[L6_1014a_eq,show((0:Int) == 0)=true from rfl,zD]
 simp only[zIU,e52,zJ,h3,zD,Ab,c37,zI,c35_2];rw[<-hE];by_cases hb:bndE p gs n=0
 ·rw[hb];exact end6 p hr gs hl hg n hb
 ·rw[show bndA p gs n=(0,bndE p gs n) from if_neg hb]
  exact err6 p gs n _ hb
set_option maxHeartbeats 4000000 in
theorem tail6[KnW][KnX][KnF](p:Pn)(hr:zu p.r)(h1:p.ps.length<=100000)(h2:p.w.d.length<=100000)(h3':p.w.w.length<=100000)(h4':p.c.p.length<=100000)(gs:List (List Int))(hl:gs.length<=6)(hg:∀g∈gs,g.length<=6)(n:Int) :
  L6_0a (gs.map λg=>DV.sl 1 (g.map eI)) n gs.length gs.length (p.ps.map ePt) p.least p.w.rule (p.w.d.map eI) (p.w.w.map eI) (p.c.p.map eI) p.c.cut (p.r.map jC)=some (.val (.bool true)):=by
 have e51:=c51 gs (by omega) (λg hg'=>by have:=hg g hg';omega)
 have e50:=KnF.bound p gs n hr (by omega) (λg hg'=>by have:=hg g hg';omega)
 unfold eGs at e51 e50;rw[L6_0a_eq];simp only[Int.lt_irrefl,decide_false,zU,c45 p hr h1 h2 h3' h4',zJ,hPn p hr,zD,zIU,e51,h95,zQ,zS,zW,zh,zi,je,zZ,zI,zR,e50,z1,z8,zK,zN,h3,h46,Aa,c46 p hr,Ab];by_cases hP:zAU p=0
 ·rw[beq_z hP,zD];by_cases h8:(p.ps.length:Int)>8
  ·refine(ifO_decT h8 _ _).trans ?_;have hf:zJi p=23:=by unfold zJi;rw[hP,if_pos (by omega)];rfl
   have hE:bndE p gs n=23:=by unfold bndE;rw[if_neg (by rw[hf];decide),hf]
   rw[show bndA p gs n=(0,23) by unfold bndA;rw[hE];rfl,L6_1014a_eq,show((23:Int) == 0)=false from rfl,zU]
   exact err6 p gs n 23 (by decide)
  ·refine(ifO_decF h8 _ _).trans ?_;have hf:zJi p=0:=by unfold zJi;rw[hP,if_neg (by omega)];rfl
   rw[hP];exact mid6 p hr gs hl hg n hf
 ·rw[beq_n hP,zU];have hf:zJi p=zAU p:=by unfold zJi zT;rw[if_neg hP]
  have hE:bndE p gs n=zAU p:=by unfold bndE;rw[if_neg (by rw[hf];exact hP),hf]
  rw[show bndA p gs n=(0,zAU p) by unfold bndA;rw[hE,if_neg hP],L6_1014a_eq,beq_n hP,zU]
  exact err6 p gs n _ hP
theorem l6_0(p:Pn)(gs:List (List Int))(n:Int)(hl:gs.length<=6)
  (ht:(∀g∈gs,g.length<=6)->L6_0a (gs.map λg=>DV.sl 1 (g.map eI)) n gs.length gs.length (p.ps.map ePt) p.least p.w.rule (p.w.d.map eI) (p.w.w.map eI) (p.c.p.map eI) p.c.cut (p.r.map jC)=some (.val (.bool true))) :
  ∀k,k<=gs.length->(∀g∈gs.take k,g.length<=6)->L6_0a (gs.map λg=>DV.sl 1 (g.map eI)) n gs.length k (p.ps.map ePt) p.least p.w.rule (p.w.d.map eI) (p.w.w.map eI) (p.c.p.map eI) p.c.cut (p.r.map jC)=some (.val (.bool true)):=by
 apply down (P:=λk=>(∀g∈gs.take k,g.length<=6)->L6_0a (gs.map λg=>DV.sl 1 (g.map eI)) n gs.length k (p.ps.map ePt) p.least p.w.rule (p.w.d.map eI) (p.w.w.map eI) (p.c.p.map eI) p.c.cut (p.r.map jC)=some (.val (.bool true)))
 ·intro h;rw[List.take_length] at h;exact ht h
 ·intro k hk ih h;have e1:(k:Int)<gs.length:=by omega
  have e0:(0:Int)<=(k:Int):=by omega
  rw[L6_0a_eq];simp only[Ab,e1,e0,and_self,decide_true,zD,Ag,zO _ gs k hk,h25,zR];by_cases h6:(gs[k].length:Int)>6
  ·exact ifO_decT h6 _ _
  ·refine(ifO_decF h6 _ _).trans ?_;rw[wr ((k:Int)+1) (by omega)]
   refine ih λg hg=>?_
   rw[List.take_succ_eq_append_getElem hk] at hg;rcases List.mem_append.1 hg with hg | hg
   ·exact h g hg
   ·rw[List.mem_singleton] at hg;subst hg;omega
set_option maxHeartbeats 4000000 in
theorem law6[KnW][KnS][KnX][KnF](p:Pn)(hr:zu p.r)(gs:List (List Int))(n:Int)(haw:zB 33 []=some (.val (.bool true))):zB 6 [ePn p,.sl 1 (gs.map λg=>DV.sl 1 (g.map eI)),eI n]=some (.val (.bool true)):=by
 rw[C6];simp only[haw,zJ,zK,zN,hPn' p hr,h95,h3,h4,Aa,zD,zp,Ae,zU,zQ,zS,zW,zh,zi,je,zZ,zI,zR,Ab];rw[c43 p hr 5];cases hS:zGD p 5 with
 | false=>simp only[zJ,h4,zD,zp,Ai]
 | true =>
  obtain⟨l1,l2,l3,l4⟩:=shortP_len hS;simp only[zJ,h4,zD,zp,Ae,zU];by_cases h6:(gs.length:Int)>6
  ·exact ifO_decT h6 _ _
  ·refine(ifO_decF h6 _ _).trans ?_;exact l6_0 p gs n (by omega) (λhg=>tail6 p hr (by omega) (by omega) (by omega) (by omega) gs (by omega) hg n) 0 (Nat.zero_le _) (λg hg=>by simp at hg)
end
end Go.Am
namespace Go.Am
open Go.Proofs
open Go Go.RowKit
noncomputable def orc4(f:FuncId):Option (List DV->Option CR):=if f=267 then some (orT T267) else orc3 f
theorem orc4_ok(f:FuncId)(h:(zGK f).isNone=true):orc4 f=none:=by
 unfold orc4;split
 ·rename_i e;subst e;simp[zGK] at h
 ·exact zHs f h
noncomputable abbrev oo4:OO:=⟨orc4,orc4_ok⟩
theorem env4:EnvOKo PP EE oo4.o:=by
 refine⟨QE _ _ _,JK,λf fn h=>E0_F _ _ _ f fn h,λf g h=>?_⟩
 have h:orc4 f=some g:=h;unfold orc4 at h;split at h
 ·rename_i e;subst e;injection h with h
  subst h;exact Qk at267
 ·exact env3.orc f g h
theorem o4{f:FuncId}(h:f≠267)(h':f≠50):oo4.o f=orc2 f:=(if_neg h:orc4 f=orc3 f).trans (o3 h')
theorem o450:oo4.o 50=some (orT T50):=(if_neg (by decide):orc4 50=orc3 50).trans o350
end Go.Am
namespace Go.Am
open Go.Proofs
open Go Go.RowKit Go.Proofs
theorem txt_conv(n:Nat)(hn:n<=9)(w:World):Sem.run PP (convert 51 9 (Value.slice (some ⟨w.heap.size,0,none⟩) 1 1)) (w.alloc (Ah #[Ad Ac (48+(n:Int))] 5))=.ok (.string (txtN n)) (w.alloc (Ah #[Ad Ac (48+(n:Int))] 5)):=by
 have h:=run_convert_bytes_back (P:=PP) (w.alloc (Ah #[Ad Ac (48+(n:Int))] 5)) 51 9 5 ⟨w.heap.size,0,none⟩ 1 [Aj (48+n)] Tryz.underlying51 Tryz.underlying5 Tryz.underlying9 (λj hj=>by
  have hj0:j=0:=by simpa using hj
  subst hj0;have e:((Aj (48+n)).toNat:Int)=48+(n:Int):=by rw[UInt8.toNat_ofNat'];omega
  have hc:=World.cell?_alloc_mark w #[Ad Ac (48+(n:Int))] 5 (0,0) 0;simp only[Af,e];exact hc)
 exact h
set_option maxRecDepth 100000 in
theorem text_walk(n:Nat)(hn:n<=9)(w:World):Calls PP 174 #[.int .i64 (n:Int)] w λe w'=>e=.returned (.string (txtN n))/\Below w.heap.size w w':=by
 go_enter Tryz.func174,Tryz.ntmps174
 go_wp2;rw[txt_conv n hn w];go_wp2;go_ret;exact⟨rfl,(Below.refl _ w).alloc (Nat.le_refl _) _⟩
def T174(ds:List DV)(r:CR):Prop:=∃n:Nat,n<=9/\ds=[eN n]/\r=.val (.str (txtN n))
theorem at174(ds:List DV)(r:CR):T174 ds r->qM PP EE 174 ds r:=by
 rintro⟨n,hn,rfl,rfl⟩;refine⟨enters Tryz.func174 (by kernel_rfl) (by kernel_rfl),λS w vals hg hlt hlen hv=>?_⟩
 obtain⟨v,rfl⟩:∃v,vals=[v]:=List.length_eq_one_iff.1 hlen;have h0:=hv 0 (by simp) (by simp)
 simp only[Af] at h0;have e:=RD.int1 (RV.rd rfl h0).1;rw[jB (RV.rd rfl h0).2] at e;obtain rfl:v=.int .i64 (n:Int):=by simpa using e
 exact(text_walk n hn w).mono λe w' ⟨h1,h2⟩=>⟨_,h1,Y0 hlt h2 ⟨RD.str _,rfl⟩⟩
end Go.Am
namespace Go.Am
open Go.Proofs
open Go Go.RowKit
noncomputable def orc5(f:FuncId):Option (List DV->Option CR):=if f=174 then some (orT T174) else orc4 f
theorem orc5_ok(f:FuncId)(h:(zGK f).isNone=true):orc5 f=none:=by
 unfold orc5;split
 ·rename_i e;subst e;simp[zGK] at h
 ·exact orc4_ok f h
noncomputable abbrev oo5:OO:=⟨orc5,orc5_ok⟩
theorem env5:EnvOKo PP EE oo5.o:=by
 refine⟨QE _ _ _,JK,λf fn h=>E0_F _ _ _ f fn h,λf g h=>?_⟩
 have h:orc5 f=some g:=h;unfold orc5 at h;split at h
 ·rename_i e;subst e;injection h with h
  subst h;exact Qk at174
 ·exact env4.orc f g h
theorem o5{f:FuncId}(h0:f≠174)(h:f≠267)(h':f≠50):oo5.o f=orc2 f:=(if_neg h0:orc5 f=orc4 f).trans (o4 h h')
theorem o550:oo5.o 50=some (orT T50):=(if_neg (by decide):orc5 50=orc4 50).trans o450
theorem o5174:oo5.o 174=some (orT T174):=(if_pos rfl:orc5 174=some (orT T174))
theorem knW5:@KnW oo5:=zIN (o5 (f:=200) (by decide) (by decide) (by decide))
theorem knO5:@KnO oo5:=knO_of (o5 (f:=68) (by decide) (by decide) (by decide))
theorem knS5:@KnS oo5:=zIO (o5 (f:=243) (by decide) (by decide) (by decide)) (o5 (f:=161) (by decide) (by decide) (by decide)) (o5 (f:=210) (by decide) (by decide) (by decide)) (o5 (f:=208) (by decide) (by decide) (by decide))
theorem knX5:@KnX oo5:=@KnX.mk oo5 λn hn=>J9 (o:=oo5) (f:=174) o5174 ⟨n,hn,rfl,rfl⟩ (by
 rintro r' ⟨n',_,e,rfl⟩;injection e with e _
 have e:=Y7 e;have e:n=n':=by omega
 rw[e])
theorem c50v5{p:Pn}{gs:List (List Int)}{n:Int}(h:@V50 oo2 p gs n):@zB oo5 50 [ePn p,eGs gs,eI n]=some (.val (.tup [eI (YQ p gs n).1,eI (YQ p gs n).2])):=by
 refine J9 (o:=oo5) (f:=50) o550 (.inl ⟨p,gs,n,h,rfl,rfl⟩) ?_;rintro r' (⟨p',gs',n',_,e,rfl⟩ | ⟨hn,_⟩)
 ·injection e with e1 e;injection e with e2 e
  injection e with e3 _;rw[zEl _ _ e1,zH6 e2,Y7 e3]
 ·exact(hn ⟨p,gs,n,h,rfl⟩).elim
theorem knB5:@KnB oo5:=@KnB.mk oo5 ((c50v5 v50S).trans (by rw[boundS]))
theorem awake5:@zB oo5 33 []=some (.val (.bool true)):=@awake oo5 knW5 knS5 knO5 knB5
end Go.Am
namespace Go.Am
open Go.Proofs
open Go Go.RowKit
theorem v50_E{p:Pn}{gs:List (List Int)}{n:Int}(hl:gs.length<=30)(hg:∀g∈gs,g.length<=1000)(h:@V50 oo2 p gs n):bndE p gs n=0:=by
 letI:OO:=oo2;have e:=@c170 oo2 p h.r gs (by omega) hg
 have e':=h.grp;unfold eGs at e';rw[e] at e';injection e' with e'
 injection e' with e'
 exact bndE_of h.few (Y7 e') h.n
theorem t50_2{p:Pn}{gs:List (List Int)}{n:Int}{r:CR}(hno:¬@V50 oo2 p gs n)(h:@zB oo2 50 [ePn p,eGs gs,eI n]=some r):@zB oo5 50 [ePn p,eGs gs,eI n]=some r:=by
 have hn:¬∃p' gs' n',@V50 oo2 p' gs' n'/\[ePn p,eGs gs,eI n]=[ePn p',eGs gs',eI n']:=by
  rintro⟨p',gs',n',hv,e⟩;injection e with e1 e
  injection e with e2 e;injection e with e3 _
  rw[zEl _ _ e1,zH6 e2,Y7 e3] at hno;exact hno hv
 refine J9 (o:=oo5) (f:=50) o550 (.inr ⟨hn,h⟩) ?_;rintro r' (⟨p',gs',n',hv,e,_⟩ | ⟨_,h'⟩)
 ·exact(hn ⟨p',gs',n',hv,e⟩).elim
 ·rw[h] at h';injection h' with h'
  exact h'.symm
theorem knF5:@KnF oo5:=@KnF.mk oo5 λp gs n hr hl hg=>by
 letI:OO:=oo2;have ho:oo2.o 50=none:=rfl;by_cases hb:bndE p gs n=0
 ·by_cases h0:gs=[]
  ·subst h0;obtain⟨rfl,e⟩:=@c50_nil oo2 knS2 ho p hr n hb;have ea:bndA p [] 0=(0,0):=by unfold bndA;rw[if_pos hb];rfl
   rw[ea];exact t50_2 (λhv=>by have:=hv.pos;simp at this) e
  ·obtain⟨hf,hk,hn⟩:=bndE_0 hb;have hP:=zH3 hf hr;obtain⟨k1,k2,_⟩:=groupsK_0 _ gs [] hk;have e170:=@c170 oo2 p hr gs (by omega) hg
   rw[hk] at e170;have hV:@V50 oo2 p gs n:=@V50.mk oo2 p gs n hr hf e170 k2 (List.length_pos_iff.2 h0) hl (by
    rw[sumLen_flat];rw[List.nil_append] at k1;have:=hP.l;omega) hn
   rw[<-bound_eq hr hb];exact c50v5 hV
 ·have ea:bndA p gs n=(0,bndE p gs n):=if_neg hb;rw[ea];exact t50_2 (λhv=>hb (v50_E hl hg hv)) (@c50_err oo2 ho p hr gs (by omega) hg n hb)
end Go.Am
