/- The abstract machine, the contracts of the functions that are walked by hand, and the examples of the document. Part 2. -/
import Derived.Test.YtojkhldombndpaaGreatDoorD1
set_option linter.all false
open Go.Op renaming operands->Aa
open Bool renaming and_eq_true->Ab,not_eq_true'->Ap,or_eq_true->AI,false_or->BA,and_true->BB
open List renaming getElem?_eq_some_iff->Ac,mem_of_getElem?->Ag,getElem?_eq_getElem->Ah,mem_iff_getElem?->Ai,all_eq_true->Aj,eq_nil_of_length_eq_zero->Al,mem_append->An,getElem?_set_ne->Ao,getElem?_zipIdx->As,getElem?_set_self->At,mem_cons->Au,mem_cons_self->Av,mem_append_right->Aw,getElem_append_right->Ax,mem_of_mem_take->Ay,mem_of_mem_drop->Az,mem_append_left->AA,getElem_append_left->AB,mem_iff_getElem->AF,mem_flatMap->AM,mem_cons_of_mem->AN,pairwise_cons->AP,mem_range->AQ,getElem?_eq_none_iff->AR,getElem?_map->AS,set_eq_of_length_le->AT,mem_filterMap->A0,size_toArray->A4,take_of_length_le->Bc,length_eq_one_iff->Bd,getElem_cons_zero->Be,getElem_cons_succ->Bf,take_append_drop->Bh,mem_of_mem_head?->Bi,pairwise_append->Bj,mem_singleton->Bk,flatten_cons->Bn,ext_getElem?->Bo,getElem_map->Bq,cons_append->Br,mem_filter->Bv,head?_cons->Bw,map_cons->Bz,length->BF,getD->BL
open Option renaming isSome_iff_exists->Ad,join_some->Ar,map_some->AH,map_map->AK,map_eq_some_iff->Ba,map_none->Bl
open Option.some renaming injEq->Ae,inj->AY
open Go.Result renaming andThen_ok->Af
open Go.Sem renaming run_bind->Ak,run_pure->Aq
open Go.Builtin renaming append_->AC,zeroCells->AZ,lenOf->Bs
open Go.Call renaming operands->AD
open Array renaming getElem?_eq_some_iff->AE,eq_empty_of_size_eq_zero->A6,replicate->Bt
open Ne renaming symm->AG
open Go.Region renaming binds->AJ,wanted->Bu,ready->Bx
open Nat renaming le_refl->AL,mul_le_mul_right->AO,le_trans->AU,zero_add->Bg,lt_of_lt_of_le->Bm,mul_comm->BE,add_mul->BJ
open Go.Value renaming cells->AW,okWide->A3,bool->BD
open Go.DataW renaming TrodAll->AX,trod->A9
open Go.Program renaming cellsOf->A5
open Go.Cell renaming okWide->A7
open Go.Instr renaming sureAddr->A8,loadAt->Bb
open Function renaming comp->Bp
open Go.Operand renaming tmp->By
open Go.Oper renaming wp_mono->BC
open List.Pairwise renaming sublist->BG
open Go.Calls renaming mono->BH
open Go.RowKit.Below renaming refl->BI
open List.Sublist renaming append_left->BK
namespace Go.Am
open Go.Proofs
open Go Go.RowKit
section
variable{P:Program}{E:Env}{base:Nat}{S S':Nat->Prop}{φ:Nat->Option Nat}{st:St}{a:Act}{w w':World}
theorem zIl(t ty e:TypeId)(i:TypeInfo)(z:Value)(ht:P.underlying t=some (.slice e))(hi:P.info? e=some i)(hz:i.zero=some z)(hzs:z.cells.size=i.size)(hby:0<i.bytes)
  {n m:Nat} {olds news:List Value} {ub ux:Value} {bs:Option Addr} {c:Nat} (hub:ub=.slice bs n c) (hnc:n<=c) (hb:bs=none->c=0) (holds:∀ad,bs=some ad->∀j v,olds[j]? = some v->w.cell? (ad.add j)=some v) (hlo:olds.length=n * i.size)
  (hx:SlC w m news ux) (hln:news.length=m * i.size) (hg:c<n+m) (hfit:(2 * (n+m)+200) * i.bytes<=281474976710656) :
  ∃C X,(AC #[t,t] ty #[ub,ux]).run P w=.ok (.slice (some ⟨w.heap.size,0,none⟩) (n+m) C) (w.drew.alloc (.cells X e))/\n+m<=C/\(olds++news) <+: X.toList/\C * i.size<=X.size:=by
 subst hub;obtain⟨ax,cx,rfl,hcx,hcell⟩:=hx;have hm:0<m:=by omega
 obtain⟨ad,rfl,_,hnews⟩:=hcell hm;have hle:(2 * (n+m)+200)<=281474976710656:=AU (Nat.le_mul_of_pos_right _ hby) hfit;have h2:2 * (n+m) * i.bytes<=281474976710656:=AU (AO _ (by omega)) hfit
 have fin:∀(C:Nat),n+m<=C->(olds++news) <+: (olds.toArray++news.toArray++AZ z.cells (C - (n+m))).toList/\C * i.size<=(olds.toArray++news.toArray++AZ z.cells (C - (n+m))).size:=by
  intro C hC;refine⟨⟨(AZ z.cells (C - (n+m))).toList,by simp⟩,?_⟩
  simp only[Array.size_append,A4,size_zeroCells,hzs,hlo,hln,<-BJ];exact AO _ (by omega)
 cases bs with
 | none =>
  have hc:c=0:=hb rfl;subst hc;have hn:n=0:=by omega
  subst hn;have ho:olds=[]:=Al (by simpa using hlo)
  subst ho;simp only[Bg] at hle h2 fin ⊢;have hr:=run_append_nil (P:=P) w t ty e i z ht hi hz ad m cx news hln hnews hm (by omega) (by rw[Nat.mul_assoc] at h2;omega)
  have hge:=grownCap_ge w m 0 e;have:=fin _ hge;simp only[List.nil_append] at this ⊢;refine⟨grownCap w m 0 e,_,hr,hge,?_,?_⟩
  ·simpa using this.1
  ·simpa using this.2
 | some b =>
  have hr:=run_append_grow (P:=P) w t ty e i z ht hi hz b n c olds hlo (holds b rfl) ad m cx news hln hnews hg (by omega) (by
   exact AU (AO _ (nextslicecap_le hg)) h2)
  have hge:=grownCap_ge w (n+m) c e;exact⟨_,_,hr,hge,fin _ hge⟩
theorem run_app_in(t ty e:TypeId)(i:TypeInfo)(ht:P.underlying t=some (.slice e))(hi:P.info? e=some i)
  {n m c cb:Nat} {news:List Value} {ux:Value} {cur:Array Value} {ct:TypeId} (hg:w.heap[cb]? = some (.cells cur ct (0,0))) (hx:SlC w m news ux) (hln:news.length=m * i.size) (h1:∀u∈news,u.oneCell'=true)
  (hroom:n+m<=c) (hfit:n * i.size+news.length<=cur.size) :
  (AC #[t,t] ty #[.slice (some ⟨cb,0,none⟩) n c,ux]).run P w=.ok (.slice (some ⟨cb,0,none⟩) (n+m) c) (w.setRow cb (splice cur.toList (n * i.size) news).toArray):=by
 have hf:=hx.first (P:=P) (m:=m) (sz:=i.size) (AL _) hln;rw[Bc (by omega)] at hf
 have hst:=run_storeCells_at P cb (n * i.size) ct news 0 cur w hg (by simpa using hfit) h1
 simp only[Nat.add_zero] at hst;obtain⟨ax,cx,rfl,_⟩:=hx;simp[AC,run_underlying ht,sizeOf,typeInfo,hi,Bs,hroom,hf,Addr.add_lit,hst,splice]
theorem Qx(t ty e:TypeId)(i:TypeInfo)(ht:P.underlying t=some (.slice e))(hi:P.info? e=some i){ad:Option Addr}{news:List Value}{ux:Value}(hx:SlC w 0 news ux)(hln:news.length=0 * i.size) :
  (AC #[t,t] ty #[.slice ad 0 0,ux]).run P w=.ok (.slice ad 0 0) w:=by
 have hf:=hx.first (P:=P) (m:=0) (sz:=i.size) (AL _) hln;obtain⟨ax,cx,rfl,_⟩:=hx;have hn:news=[]:=Al (by simpa using hln)
 subst hn;simp only[List.take_nil] at hf;cases ad <;> simp[AC,run_underlying ht,sizeOf,typeInfo,hi,Bs,hf,storeCells]
set_option maxHeartbeats 2000000 in
theorem zGY(hD:DOK P E)(h:Rel E base S φ st a w){ts:Array TypeId}{vs:List AV}{us:List Value}(hu:ListOK E.L S φ w vs us){s:Nat}{ef:Eff}(hs:Jb E ts.toList s st.hp vs=some ef)(hok:ef.ok=true)(ty:TypeId)(dst:Option Tmp){st':St}
  (hst:(match ef.new with
   | none=>some (zq ef dst s st)
   | some b=>zw (dst.isSome && zn s b) (some (zq ef dst s (clear s st))))=some st') :
  ∃r w' S' φ',(AC ts ty us.toArray).run P w=.ok r w'/\Rel E base S' φ' st' (a.put dst r) w'/\Grow base S S' w w':=by
 unfold Jb at hs;split at hs
 case h_2=>simp at hs
 rename_i x y;split at hs
 case h_2=>simp at hs
 rename_i t t2 hts;obtain⟨ett,hs0⟩:=zG hs;clear hs;simp only[decide_eq_true_eq] at ett;subst ett;obtain⟨td,htd,hs1⟩:=zA hs0;clear hs0;have ht:=hD t td htd;split at hs1
 case h_2=>simp at hs1
 rename_i e hk;obtain⟨ed,hed,hs2⟩:=zA hs1;clear hs1;obtain⟨bs,hbs,hs3⟩:=zA hs2;clear hs2;obtain⟨el,hel,hs4⟩:=zA hs3;clear hs3;obtain⟨hg,hs5⟩:=zG hs4;clear hs4;simp only[decide_eq_true_eq] at hg;obtain⟨hsz0,hby0,hfit⟩:=hg;have he:=hD e ed hed;obtain⟨i,z,hi,hiz,hib,hz,hzr⟩:=he.info;have hrdz:=RV.rd he.zt (hzr S w);have hzs:z.cells.size=i.size:=by have h1:(vcs z).length=Jm E.L (.d ed.zero):=hrdz.1.len;rw[<-(jU he he.zfit).1,<-hiz] at h1;simpa[vcs] using h1
 have htu:=Qc ht hk;rw[<-hiz] at hsz0 hbs hel;rw[<-hib] at hby0 hfit;obtain⟨ub,ux,rfl⟩:∃ud us',us=[ud,us']:=by
  match us,hu.1 with
  | [p,q],_=>exact⟨p,q,rfl⟩
  | [],h=>simp at h
  | [_],h=>simp at h
  | _ :: _ :: _ :: _,h=>simp at h
 have h1:=hu.2 0 (by simp) (by simp)
 have h2:=hu.2 1 (by simp) (by simp)
 simp only[Be,Bf] at h1 h2;clear hu;have ets:ts=#[t,t]:=Array.ext' (by simpa using hts)
 subst ets;obtain⟨css2,hl2,hr2,hz2,hslc⟩:=zBW h hel h2;have hfl2:css2.flatten.length=el.1.length * i.size:=by rw[YX hz2,hl2]
 by_cases hnil:bs.2=none/\el.1=[]
 ·obtain⟨hn1,hn2⟩:=hnil;rw[hn1,hn2] at hs5;simp[zk] at hs5;subst hs5;injection hst with hst;subst hst
  rw[hn2] at hslc hfl2;have hub:∃ad,ub=.slice ad 0 0:=by
   unfold YR at hbs;split at hbs
   ·exact RV.nl (show RV E.L S w .nl ub from h1)
   ·split at hbs
    ·split at hbs
     ·split at hbs
      ·injection hbs with hbs;rw[<-hbs] at hn1;simp at hn1
      ·simp at hbs
     ·simp at hbs
    ·simp at hbs
   ·simp at hbs
  obtain⟨ad,rfl⟩:=hub;exact⟨_,w,S,φ,Qx t ty e i htu hi hslc hfl2,h.put dst (v:=.d .nl) ⟨.nl _,rfl⟩,Grow.refl⟩
 ·have hef:ef={ v:=.own s 0 (bs.1.length+el.1.length) i.size,new:=some (.dc i.size (bs.1++el.1)),kil:=bs.2,frz:=el.2 }:=by
   split at hs5
   ·rename_i e1 e2;exact absurd ⟨e1,e2⟩ hnil
   ·rw[hiz];injection hs5 with hs5;exact hs5.symm
  subst hef;obtain⟨hgd,hst⟩:=zG hst;injection hst with hst;subst hst
  simp only[Eff.ok,Bool.true_and] at hok;obtain⟨S1,hR1,hG1,hS1⟩:=h.freezeL el.2;have hrd:∀i (h:i<el.1.length) (h':i<css2.length),RD E.L S1 w el.1[i] css2[i]:=λi a b=>(hr2 i a b).mono (λx hx=>(hS1 x).2 hx) λ_ _=>rfl
  have hone:∀v∈css2.flatten,v.oneCell'=true:=λv hv=>by obtain⟨c,hc,hv⟩:=List.mem_flatten.1 hv;obtain⟨k,hk,rfl⟩:=AF.1 hc;exact(hrd k (by omega) hk).oneCell v hv
  have hR2:=hR1.clear s;have happ:zq { v:=.own s 0 (bs.1.length+el.1.length) i.size,new:=some (.dc i.size (bs.1++el.1)),kil:=bs.2,frz:=el.2 } dst s (clear s st) =
    { tm:=j5 (clear s { st with hp:=Am.freezeL st.hp el.2 }).tm dst (.own s 0 (bs.1.length+el.1.length) i.size),hp:=(zEV (clear s { st with hp:=Am.freezeL st.hp el.2 }).hp bs.2).set s (some ⟨false,.dc i.size (bs.1++el.1)⟩) }:=by
   simp only[zq,zHo,clear,qz]
  have hR3:Rel E base S1 (upd φ s none) { clear s { st with hp:=Am.freezeL st.hp el.2 } with hp:=zEV (clear s { st with hp:=Am.freezeL st.hp el.2 }).hp bs.2 } a w:=by
   cases hb2:bs.2 with
   | none=>exact hR2
   | some b=>exact hR2.drop b
  have hblk:∀{w':World} {X:Array Value} {ct:TypeId} {cb:Nat} (css:List (List Value)),css.length=bs.1.length->(∀i (h:i<bs.1.length) (h':i<css.length),RD E.L S1 w bs.1[i] css[i])->(∀c∈css,c.length=i.size) ->
    (∀b,S1 b->w'.heap[b]? = w.heap[b]?)->w'.heap[cb]? = some (.cells X ct (0,0))->(css.flatten++css2.flatten) <+: X.toList->RB E.L S1 (upd (upd φ s none) s (some cb)) w' (.dc i.size (bs.1++el.1)) cb:=by
   intro w' X ct cb css k1 k2 k3 k4 k5 k6;refine⟨X,ct,css++css2,k5,by simp[k1,hl2],λj p q=>?_,λc hc=>?_,by simpa using k6⟩
   ·by_cases hj:j<bs.1.length
    ·rw[AB hj,AB (by omega)]
     exact(k2 j hj (by omega)).mono (λ_ h=>h) k4
    ·rw[Ax (by omega),Ax (by omega)]
     simp only[k1];exact(hrd _ (by simp at p;omega) (by simp at q;omega)).mono (λ_ h=>h) k4
   ·rcases An.1 hc with hc | hc
    ·exact k3 c hc
    ·exact hz2 c hc
  have out:∀{n c:Nat} {ob:Option Addr} (css:List (List Value)),n=bs.1.length->ub=.slice ob n c->n<=c->(ob=none->c=0)->css.length=bs.1.length->(∀i (h:i<bs.1.length) (h':i<css.length),RD E.L S1 w bs.1[i] css[i])->(∀c∈css,c.length=i.size) ->
    (∀ad,ob=some ad->∀j v,css.flatten[j]? = some v->w.cell? (ad.add j)=some v)->c<n+el.1.length->∃r w' S' φ',(AC #[t,t] ty #[ub,ux]).run P w=.ok r w' /\
    Rel E base S' φ' (zq { v:=.own s 0 (bs.1.length+el.1.length) i.size,new:=some (.dc i.size (bs.1++el.1)),kil:=bs.2,frz:=el.2 } dst s (clear s st)) (a.put dst r) w'/\Grow base S S' w w':=by
   intro n c ob css k1 k2 k3 k4 k5 k6 k7 k8 k9;subst k1;obtain⟨C,X,hrun,hC,hX1,hX2⟩:=zIl (P:=P) t ty e i z htu hi hz hzs hby0 k2 k3 k4 k8 (by rw[YX k7,k5]) hslc hfl2 k9 hfit
   have hbut:But w.heap.size w (w.drew.alloc (.cells X e)):=(But.drew w _).trans (But.alloc w.drew _ _);have hnS:¬S1 w.heap.size:=hR1.freshS;have hnew:=hR3.new (s:=s) (cb:=w.heap.size) (blk:=.dc i.size (bs.1++el.1)) (by simp[upd]) hR3.base hnS hbut (λb ob hb=>hR3.fresh b ob hb)
    (hblk css k5 k6 k7 (λb hb=>hbut.block b (hR1.lt b hb) (by rintro rfl;exact hnS hb)) (heap_alloc_new w.drew _) hX1)
   refine⟨_,_,S1,upd (upd φ s none) s (some w.heap.size),hrun,?_,hG1.trans (hbut.grow hR1.lt hnS hR1.base hR1.base)⟩;rw[happ];refine hnew.put dst (v:=.own s 0 (bs.1.length+el.1.length) i.size) ⟨?_,rfl⟩;have:=RA.own (L:=E.L) (S:=S1) (φ:=upd (upd φ s none) s (some w.heap.size)) (w:=w.drew.alloc (.cells X e)) s 0 (bs.1.length+el.1.length) i.size w.heap.size C (by simp[upd]) hC
    ⟨X,e,heap_alloc_new w.drew _,by simpa using hX2⟩
   simpa[vcs,AW] using this
  unfold YR at hbs;split at hbs
  ·injection hbs with hbs;subst hbs
   obtain⟨ad,rfl⟩:=RV.nl (show RV E.L S w .nl ub from h1)
   refine out [] rfl rfl (AL _) (λ_=>rfl) rfl (by simp) (by simp) (λ_ _=>by simp) ?_
   have:el.1≠[]:=λhh=>hnil ⟨rfl,hh⟩
   have:=List.length_pos_iff.2 this;simpa using this
  ·rename_i b off len s2;split at hbs
   case isFalse=>simp at hbs
   rename_i hcond;obtain⟨rfl,rfl⟩:=hcond;split at hbs
   case h_2=>simp at hbs
   rename_i s3 xs hsl;split at hbs
   case isFalse=>simp at hbs
   rename_i hcond;obtain⟨rfl,rfl⟩:=hcond;injection hbs with hbs;subst hbs
   simp only[Ap,List.contains_eq_mem,decide_eq_false_iff_not] at hok;have hslF:slot (Am.freezeL st.hp el.2) b=some ⟨false,.dc i.size xs⟩:=by rw[YZ _ _ _ hok];exact hsl
   obtain⟨cb,hφ,hbase,hrb,hfz⟩:=hR1.blk b _ hslF;have hnS:¬S1 cb:=λhh=>by simpa using hfz.1 hh
   obtain⟨cells,ct,css,c1,c2,c3,c4,c5⟩:=hrb;have hcf:css.flatten.length=xs.length * i.size:=by rw[YX c4,c2]
   have hcells:∀j v,css.flatten[j]? = some v->w.cell? ((⟨cb,0,none⟩:Addr).add j)=some v:=λj v hj=>by rw[jr rfl,qg c1];simpa using Ye c5 hj
   have hslots:∀b' ob,slot (zEV (clear s { st with hp:=Am.freezeL st.hp el.2 }).hp (some b)) b'=some ob->upd φ s none b'≠some cb:=by
    intro b' ob hb';simp only[zEV] at hb';rcases Jx hb' with ⟨_,e⟩ | ⟨hne,hb'⟩
    ·cases e
    ·obtain⟨hns,ob0,h0,_⟩:=Jp hb';unfold upd;rw[if_neg hns];intro e;exact hne (hR1.inj b' b _ _ _ h0 hslF e hφ)
   rcases RA.own_inv h1 with ⟨cb',c,hφ',hcc,hroom,hub⟩ | ⟨ad,hl0,hub⟩
   ·have ecb:cb=cb':=AY (hφ.symm.trans hφ');subst ecb;simp only[Nat.zero_mul,Bg] at hroom hub;by_cases hin:xs.length+el.1.length<=c
    ·clear out;subst hub;obtain⟨cells',ct',c1',hsz'⟩:=hroom;rw[c1] at c1';injection c1' with c1'
     injection c1' with e1 e2 e3
     subst e1;have hle:(xs.length+el.1.length) * i.size<=c * i.size:=AO _ hin;have hfit2:xs.length * i.size+css2.flatten.length<=cells.size:=by rw[hfl2,<-BJ];omega
     have hrun:=run_app_in (P:=P) t ty e i htu hi (n:=xs.length) (c:=c) c1 hslc hfl2 hone hin hfit2;have hspl:(splice cells.toList (xs.length * i.size) css2.flatten).length=cells.toList.length:=JB (by simpa using hfit2)
     have hbut:But cb w (w.setRow cb (splice cells.toList (xs.length * i.size) css2.flatten).toArray):=But.setRow c1 (by rw[A4,hspl];simp)
     have hnew:=hR3.new (s:=s) (cb:=cb) (blk:=.dc i.size (xs++el.1)) (by simp[upd]) hbase hnS hbut hslots
      (hblk (X:=(splice cells.toList (xs.length * i.size) css2.flatten).toArray) (ct:=ct) css c2 c3 c4 (λb hb=>hbut.block b (hR1.lt b hb) (by rintro rfl;exact hnS hb)) (setRow_heap w cb cells _ ct (0,0) c1) (by
       obtain⟨r,hr⟩:=c5;refine⟨(cells.toList.drop (xs.length * i.size+css2.flatten.length)),?_⟩;have:cells.toList.take (xs.length * i.size)=css.flatten:=by rw[<-hr,List.take_append_of_le_length (by omega),Bc (by omega)]
       simp[splice,this]))
     refine⟨_,_,S1,upd (upd φ s none) s (some cb),hrun,?_,hG1.trans (hbut.grow hR1.lt hnS hR1.base hbase)⟩;rw[happ];refine hnew.put dst (v:=.own s 0 (xs.length+el.1.length) i.size) ⟨?_,rfl⟩;have:=RA.own (L:=E.L) (S:=S1) (φ:=upd (upd φ s none) s (some cb)) (w:=w.setRow cb (splice cells.toList (xs.length * i.size) css2.flatten).toArray) s 0 (xs.length+el.1.length) i.size cb c (by simp[upd]) hin
      ⟨_,ct,setRow_heap w cb cells _ ct (0,0) c1,by rw[A4,hspl];simpa using hsz'⟩
     simpa[vcs,AW] using this
    ·exact out css rfl hub hcc (λhh=>by cases hh) c2 c3 c4 (λad had j v hj=>by injection had with had;subst had;exact hcells j v hj) (by show c<xs.length+el.1.length;omega)
   ·have hxn:xs=[]:=Al hl0;subst hxn;have hcn:css=[]:=Al c2;subst hcn;by_cases hm:el.1.length=0
    ·clear out;subst hub;have hrun:=Qx (P:=P) (w:=w) t ty e i htu hi (ad:=ad) (by rw[hm] at hslc;exact hslc) (by rw[hfl2,hm])
     have h2n:css2=[]:=Al (by omega)
     have hnew:=hR3.new (w':=w) (s:=s) (cb:=cb) (blk:=.dc i.size ([]++el.1)) (by simp[upd]) hbase hnS ⟨rfl,rfl,rfl,AL _,λ_ _ _=>rfl,λ_ h=>h⟩ hslots
      (hblk (X:=cells) (ct:=ct) [] rfl (by simp) (by simp) (λ_ _=>rfl) c1 (by simp[h2n]))
     refine⟨_,w,S1,upd (upd φ s none) s (some cb),hrun,?_,hG1⟩;rw[happ];refine hnew.put dst (v:=.own s 0 (([]:List DV).length+el.1.length) i.size) ⟨?_,rfl⟩;have:=RA.own0 (L:=E.L) (S:=S1) (φ:=upd (upd φ s none) s (some cb)) (w:=w) s 0 i.size ad;simpa[vcs,AW,hm] using this
    ·exact out (ob:=ad) (c:=0) [] rfl hub (AL _) (λ_=>rfl) rfl (by simp) (by simp) (λ_ _=>by simp) (by simp;omega)
  ·simp at hbs
end
end Go.Am
namespace Go.Am
open Go.Proofs
open Go Go.RowKit
section
variable{P:Program}{E:Env}{base:Nat}{S S':Nat->Prop}{φ:Nat->Option Nat}{st:St}{a:Act}{w w':World}
def zAa(E:Env)(S:Nat->Prop)(w:World)(r:CR)(v:Value)(w':World):Prop :=
 ∃S':Nat->Prop,Below w.heap.size w w'/\(∀b,S b->S' b)/\(∀b,S' b->S b\/w.heap.size<=b)/\(∀b,S' b->b<w'.heap.size) /\
  match r with
  | .val x=>RV E.L S' w' x v
  | .fresh sz xs=>∃cb,w.heap.size<=cb/\¬S' cb/\(∀φ,RB E.L S' φ w' (.dc sz xs) cb)/\∀(φ:Nat->Option Nat) s,φ s=some cb->RAV E.L S' φ w' (.own s 0 xs.length sz) v
def Enters(P:Program)(f:FuncId):Prop:=∃fn,P.funcs[f]? = some fn/\(fn.name == "runtime.NumGoroutine")=false/\fn.body.isNone=false
def JC(P:Program)(E:Env)(call:FuncId->List DV->Option CR):Prop :=
 ∀f ds r,call f ds=some r->Enters P f/\∀(S:Nat->Prop) (w:World) (vals:List Value),GlobOK E S w->(∀b,S b->b<w.heap.size)->vals.length=ds.length ->
  (∀i (h:i<ds.length) (h':i<vals.length),RV E.L S w ds[i] vals[i])->Calls P f vals.toArray w λe w'=>∃v,e=.returned v/\zAa E S w r v w'
theorem zDZ{x:DV}(h:Y2 x=true)(hx:x.isTup=false){cs:List Value}(hr:RD E.L S w x cs)(S':Nat->Prop)(w':World):RD E.L S' w' x cs:=by
 cases hr with
 | bool b=>exact .bool b
 | int k n=>exact .int k n
 | flt k b=>exact .flt k b
 | cpx k x y=>exact .cpx k x y
 | str s=>exact .str s
 | nl a=>exact .nl a
 | nilFn=>exact .nilFn
 | nilPtr=>exact .nilPtr
 | nilMp=>exact .nilMp
 | nilIf=>exact .nilIf
 | _=>simp[Y2] at h
theorem zGO{x:DV}(h:Y2 x=true){v:Value}(hr:RV E.L S w x v)(S':Nat->Prop)(w':World):RV E.L S' w' x v:=by
 cases x with
 | tup xs =>
  obtain⟨vs,e,hl,hp⟩:=hr;refine⟨vs,e,hl,λi a b=>⟨?_,(hp i a b).2⟩⟩
  have hi:=(hp i a b).1;simp only[Y2,Aj] at h;have hm:=h xs[i] (List.getElem_mem a);refine zDZ ?_ hi.notTup hi S' w';revert hm;cases xs[i] <;> simp[Y2]
 | _=>exact⟨zDZ h rfl hr.1 S' w',hr.2⟩
theorem ListOK.append{L:Nat->List Nat}{xs ys:List AV}{us vs:List Value}(h:ListOK L S φ w xs us)(k:ListOK L S φ w ys vs):ListOK L S φ w (xs++ys) (us++vs):=by
 refine⟨by simp[h.1,k.1],λi a b=>?_⟩
 by_cases hi:i<xs.length
 ·rw[AB hi,AB (by rw[h.1];exact hi)]
  exact h.2 i hi _
 ·rw[Ax (by omega),Ax (by rw[h.1];omega)]
  simp only[h.1];exact k.2 _ _ _
theorem zEC{f:AV}{c:FuncId×List AV×List AV}(h:YY f=some c){u:Value}(hu:RAV E.L S φ w f u) :
  ∃v1 v2:List Value,u=.func (.func c.1) v1.toArray v2.toArray/\ListOK E.L S φ w c.2.1 v1/\ListOK E.L S φ w c.2.2 v2:=by
 unfold YY at h;split at h
 ·rename_i f' x y;injection h with h;subst h
  obtain⟨hr,ha⟩:=(hu:RV E.L S w (.fn f' x y) u);rw[jB ha] at hr;cases hr with
  | fn _ _ _ vx vy hx hy h1 h2 h3 h4 =>
   refine⟨vx,vy,rfl,⟨by simpa using hx,λi a b=>?_⟩,⟨by simpa using hy,λi a b=>?_⟩⟩
   ·simp only[Bq];have:=h1 i (by simpa using a) b
    exact RV.of this.notTup this (h2 i (by simpa using a) b)
   ·simp only[Bq];have:=h3 i (by simpa using a) b
    exact RV.of this.notTup this (h4 i (by simpa using a) b)
 ·rename_i f' x y;injection h with h;subst h
  obtain⟨hr,ha⟩:=hu;rw[jB ha] at hr;cases hr with
  | fn _ _ _ vx vy hx hy h1 h2 h3 h4 =>
   exact⟨vx,vy,rfl,⟨hx,λi a b=>RAV.of (h1 i a b) (h2 i a b)⟩,⟨hy,λi a b=>RAV.of (h3 i a b) (h4 i a b)⟩⟩
 ·simp at h
theorem zAi(h:Rel E base S φ st a w):∀(vs:List AV) (us:List Value) (ds:List DV),Ji st.hp vs=some ds->ListOK E.L S φ w vs us ->
  ds.length=vs.length/\∀i (h:i<ds.length) (h':i<us.length),RV E.L (Plus S φ st.hp (ja st.hp vs)) w ds[i] us[i]
 | [],us,ds,hs,hl=>by
  simp[Ji] at hs;subst hs;exact⟨rfl,λi a=>by simp at a⟩
 | v :: vs,[],ds,hs,hl=>absurd hl.1 (by simp)
 | v :: vs,u :: us,ds,hs,hl=>by
  simp only[Ji] at hs;obtain⟨x,hx,hs⟩:=zA hs;obtain⟨xs,hxs,hs⟩:=zA hs;injection hs with hs;subst hs
  have h0:=hl.2 0 (by simp) (by simp)
  obtain⟨h1,h2⟩:=zAi h vs us xs hxs ⟨by simpa using hl.1,λi a b=>hl.2 (i+1) (by simp;omega) (by simp;omega)⟩
  refine⟨by simp[h1],λi a b=>?_⟩
  cases i with
  | zero=>exact RV.mono (snapV h hx h0) (Plus.mono λs hs=>by simp[ja,hs]) λ_ _=>rfl
  | succ i=>exact RV.mono (h2 i (by simpa using a) (by simpa using b)) (Plus.mono λs hs=>by simp[ja,hs]) λ_ _=>rfl
def Post(E:Env)(base:Nat)(S:Nat->Prop)(w:World)(st':St)(a':Act)(w':World):Prop:=∃S' φ',Rel E base S' φ' st' a' w'/\Grow base S S' w w'
theorem Rel.res(h:Rel E base S φ st a w){S2:Nat->Prop}(hb:Below w.heap.size w w')(h1:∀b,S b->S2 b)(h2:∀b,S2 b->S b\/w.heap.size<=b)(h3:∀b,S2 b->b<w'.heap.size) :
  Rel E base S2 φ st a w'/\Grow base S S2 w w':=by
 have g:Grow base S S2 w w':=⟨hb.mono h.base,h1,λb hb'=>(h2 b hb').imp id λhh=>AU h.base hh,λb hb'=>hb.block b (h.lt b hb')⟩
 exact⟨h.world g h3 (λb hlt hn hs=>(h2 b hs).elim hn λhh=>by omega) hb.block,g⟩
theorem zI1(h:Rel E base S φ st a w){call:FuncId->List DV->Option CR}(hc:JC P E call){s:Nat}{f:AV}{args:List AV}{uf:Value}{us:List Value}(hf:RAV E.L S φ w f uf)(hu:ListOK E.L S φ w args us)
  {ef:Eff} (he:qs call s st.hp f args=some ef) (dst:Option Tmp) {st':St}
  (hst:(match ef.new with
   | none=>some (zq ef dst s st)
   | some b=>zw (dst.isSome && zn s b) (some (zq ef dst s (clear s st))))=some st') :
  ∃(g:FuncId) (v1 v2:List Value),uf=.func (.func g) v1.toArray v2.toArray/\Enters P g/\Calls P g (v1++us++v2).toArray w λe w'=>∃v,e=.returned v/\Post E base S w st' (a.put dst v) w':=by
 unfold qs at he;obtain⟨c,hcl,he1⟩:=zA he;clear he;obtain⟨ds,hds,he2⟩:=zA he1;clear he1;obtain⟨r,hr,he3⟩:=zA he2;clear he2;injection he3 with he3;subst he3
 obtain⟨v1,v2,rfl,hl1,hl2⟩:=zEC hcl hf;have hl:=(hl1.append hu).append hl2;obtain⟨hdl,hrv⟩:=zAi h _ _ _ hds hl;obtain⟨hent,hcall⟩:=hc c.1 ds r hr;obtain⟨S1,hR1,hG1,hS1⟩:=h.freezeL (ja st.hp (c.2.1++args++c.2.2));refine⟨c.1,v1,v2,rfl,hent,?_⟩;refine BH (hcall S1 w (v1++us++v2) hR1.glob hR1.lt (by rw[hl.1,hdl]) (λi a b=>RV.mono (hrv i a b) (λx hx=>(hS1 x).2 hx) λ_ _=>rfl)) λe w' hres=>?_
 obtain⟨v,rfl,S2,hb,k1,k2,k3,hv⟩:=hres;refine⟨v,rfl,?_⟩;generalize hss:ja st.hp (c.2.1++args++c.2.2)=ss at *
 cases r with
 | val x =>
  simp only at hv;by_cases hm:Y2 x=true/\ss≠[]
  ·have hfz:(deliver s ss (.val x))={ v:=.d x }:=by
    simp only[deliver];cases ss with
    | nil=>exact absurd rfl hm.2
    | cons b ss=>simp[hm.1]
   rw[hfz] at hst;injection hst with hst;subst hst
   obtain⟨hR,hG⟩:=h.res (S2:=S) hb (λ_ h=>h) (λ_ h=>.inl h) (λb hb'=>Bm (h.lt b hb') hb.size)
   exact⟨S,φ,hR.put dst (v:=.d x) (zGO hm.1 hv S w'),hG⟩
  ·have hfz:(deliver s ss (.val x))={ v:=.d x,frz:=ss }:=by
    simp only[deliver];cases ss with
    | nil=>rfl
    | cons b ss =>
     have:Y2 x=false:=by
      cases h:Y2 x with
      | false=>rfl
      | true=>exact absurd ⟨h,by simp⟩ hm
     simp[this]
   rw[hfz] at hst;injection hst with hst;subst hst
   obtain⟨hR,hG⟩:=hR1.res hb k1 k2 k3;exact⟨S2,φ,hR.put dst (v:=.d x) hv,hG1.trans hG⟩
 | fresh sz xs =>
  simp only[deliver] at hst;obtain⟨hgd,hst⟩:=zG hst;injection hst with hst;subst hst
  obtain⟨cb,hcb,hnS,hrb,hva⟩:=hv;obtain⟨hR,hG⟩:=hR1.res hb k1 k2 k3;have hR2:=hR.clear s;have hnew:=hR2.new (w':=w') (s:=s) (cb:=cb) (blk:=.dc sz xs) (by simp[upd]) (AU h.base hcb) hnS ⟨rfl,rfl,rfl,AL _,λ_ _ _=>rfl,λ_ h=>h⟩ (λb ob hb'=>by
   obtain⟨hns,ob0,h0,_⟩:=Jp hb';unfold upd;rw[if_neg hns];obtain⟨c',hc',_,hr',_⟩:=hR1.blk b ob0 h0;rw[hc'];intro e;injection e with e
   have:=hr'.lt;omega) (hrb _)
  refine⟨S2,upd (upd φ s none) s (some cb),?_,hG1.trans hG⟩;have happ:zq { v:=.own s 0 xs.length sz,new:=some (.dc sz xs),frz:=ss } dst s (clear s st) =
    { tm:=j5 (clear s { st with hp:=Am.freezeL st.hp ss }).tm dst (.own s 0 xs.length sz),hp:=((clear s { st with hp:=Am.freezeL st.hp ss }).hp).set s (some ⟨false,.dc sz xs⟩) }:=by
   simp only[zq,zHo,zEV,clear,qz]
  rw[happ];exact hnew.put dst (v:=.own s 0 xs.length sz) (hva _ s (by simp[upd]))
end
end Go.Am
namespace Go.Am
open Go.Proofs
open Go Go.RowKit
section
variable{P:Program}{E:Env}{base:Nat}{S S':Nat->Prop}{φ:Nat->Option Nat}{st:St}{a:Act}{w w':World}
theorem Done.wp{st':St}{o:Oper}{Q:Exit->Act->World->Prop}(h:Done E base S st' a o.dst w ((execOp a.eval o).run P w)):o.wp P a w (Post E base S w st') Q:=by
 obtain⟨n,u,w',S',φ',hr,hn,hR,hG⟩:=h;unfold Oper.wp;rw[hr];rcases hn with rfl | ⟨rfl,rfl⟩
 ·exact⟨S',φ',hR,hG⟩
 ·exact⟨S',φ',hR,hG⟩
theorem Rel.alloc(h:Rel E base S φ st a w)(o:Obj):Rel E base S φ st a (w.alloc o)/\Grow base S S w (w.alloc o) :=
 h.res (Below.alloc (BI _ w) (AL _) o) (λ_ h=>h) (λ_ h=>.inl h) (λb hb=>Bm (h.lt b hb) (by simp))
theorem Rel.drew(h:Rel E base S φ st a w):Rel E base S φ st a w.drew/\Grow base S S w w.drew :=
 h.res (Below.drew (BI _ w)) (λ_ h=>h) (λ_ h=>.inl h) (λb hb=>h.lt b hb)
theorem Q4{st':St}{o:Oper}{v:AV}{u:Value}(h:Rel E base S φ st a w)(hr:(execOp a.eval o).run P w=.ok (.value u) w)(hv:RAV E.L S φ w v u)
  (hst:some (zq { v } o.dst (zg o) st)=some st'):Done E base S st' a o.dst w ((execOp a.eval o).run P w):=by
 injection hst with hst;subst hst
 exact⟨_,u,w,S,φ,hr,.inl rfl,h.put o.dst hv,Grow.refl⟩
theorem zEF(hD:DOK P E){call:FuncId->List DV->Option CR}(hc:JC P E call)(h:Rel E base S φ st a w){o:Oper}{st':St}(hs:YU E call o st=some st'){Q:Exit->Act->World->Prop} :
  o.wp P a w (Post E base S w st') Q:=by
 unfold YU at hs;obtain⟨ef,he,hs1⟩:=zA hs;clear hs;obtain⟨hok,hst⟩:=zG hs1;clear hs1;by_cases hp:zIH o.op=true
 ·obtain⟨v,u,rfl,hr,hv⟩:=pure_sound hD h.ev hp he;exact(Q4 h (hr w) hv hst).wp
 cases ho:o.op <;> simp only[ho,zIH] at hp <;> try (simp at hp;done)
 all_goals simp only[ho,jj] at he
 all_goals try (simp at he;done)
 case alloc t =>
  exact(NewTo.done h (zHk hD h.lt he) (by simp only[execOp,ho]) hst).wp
 case box t x =>
  obtain⟨v,hv,he1⟩:=zA he;exact(NewTo.done h (boxE_sound hD h.lt (h.ev x v hv) he1) (by simp only[execOp,ho]) hst).wp
 case buildSlice t n ps =>
  obtain⟨vs,hv,he1⟩:=zA he;have hps:=QC h.ev _ _ hv;rcases zB5 (us:=ps.map λ(i,x)=>(i,a.eval x)) hD h.lt he1 (by simpa using hps) with hn | ⟨rfl,u,ob,hr,hrv⟩
  ·exact(NewTo.done h hn (by simp only[execOp,ho]) hst).wp
  ·injection hst with hst;subst hst
   obtain⟨hR,hG⟩:=h.alloc ob;refine Done.wp ⟨.value u,u,w.alloc ob,S,φ,?_,.inl rfl,hR.put o.dst (v:=.d .nl) (hrv _),hG⟩;simp only[execOp,ho,Ak,hr,Af,Aq]
 case load t x =>
  obtain⟨v,hv,he1⟩:=zA he;obtain⟨r,u,rfl,hr,hrv⟩:=qo hD h (h.ev x v hv) he1;exact(Q4 h (by simp only[execOp,ho,Ak,hr,Af,Aq]) hrv hst).wp
 case store t x y =>
  obtain⟨v,hv,he1⟩:=zA he;obtain⟨v2,hv2,he2⟩:=zA he1;obtain⟨hn,w',hr,hR,hG⟩:=zHV hD h (h.ev x v hv) (h.ev y v2 hv2) he2 o.dst (zg o);rw[hn] at hst;injection hst with hst;subst hst
  refine Done.wp ⟨.skip,undef,w',S,φ,?_,.inr ⟨rfl,rfl⟩,hR,hG⟩;simp only[execOp,ho,Ak,hr,Af,Aq]
 case makeMap t r =>
  cases r with
  | some r=>simp at he
  | none =>
   simp only at he;obtain⟨td,htd,he1⟩:=zA he;split at he1
   ·injection he1 with he1;subst he1
    exact(NewTo.done h (zD5 (t:=t)) (by simp only[execOp,ho,Bl]) hst).wp
   ·simp at he1
 case makeSlice t x y =>
  obtain⟨v,hv,he1⟩:=zA he;obtain⟨v2,hv2,he2⟩:=zA he1;exact(NewTo.done h (zCk hD h.lt (h.ev x v hv) (h.ev y v2 hv2) he2) (by simp only[execOp,ho]) hst).wp
 case lookup t m k ok =>
  obtain⟨v,hv,he1⟩:=zA he;obtain⟨v2,hv2,he2⟩:=zA he1;obtain⟨r,u,rfl,hr,hrv⟩:=zGP hD h (h.ev m v hv) (h.ev k v2 hv2) he2;exact(Q4 h (by simp only[execOp,ho,Ak,hr,Af,Aq]) hrv hst).wp
 case mapUpdate t m k x =>
  obtain⟨v,hv,he1⟩:=zA he;obtain⟨v2,hv2,he2⟩:=zA he1;obtain⟨v3,hv3,he3⟩:=zA he2;obtain⟨hn,w',hr,hR,hG⟩:=QJ hD h (h.ev m v hv) (h.ev k v2 hv2) (h.ev x v3 hv3) he3 o.dst (zg o);rw[hn] at hst;injection hst with hst;subst hst
  refine Done.wp ⟨.skip,undef,w',S,φ,?_,.inr ⟨rfl,rfl⟩,hR,hG⟩;simp only[execOp,ho,Ak,hr,Af,Aq]
 case insert t m k x =>
  obtain⟨v,hv,he1⟩:=zA he;obtain⟨v2,hv2,he2⟩:=zA he1;obtain⟨v3,hv3,he3⟩:=zA he2;obtain⟨hn,w',hr,hR,hG⟩:=QJ hD h (h.ev m v hv) (h.ev k v2 hv2) (h.ev x v3 hv3) he3 o.dst (zg o);rw[hn] at hst;injection hst with hst;subst hst
  refine Done.wp ⟨.skip,undef,w',S,φ,?_,.inr ⟨rfl,rfl⟩,hR,hG⟩;simp only[execOp,ho,Ak,hr,Af,Aq]
 case range t x =>
  obtain⟨td,htd,he1⟩:=zA he;split at he1
  case h_2=>simp at he1
  rename_i hk;obtain⟨v,hv,he2⟩:=zA he1;exact(NewTo.done h (zHa (h.ev x v hv) hD htd hk he2) (by simp only[execOp,ho]) hst).wp
 case next x b =>
  obtain⟨v,hv,he1⟩:=zA he;obtain⟨hn,r,w',hr,hR,hG⟩:=zIr (P:=P) h (h.ev x v hv) he1 o.type o.dst (zg o);rw[hn] at hst;injection hst with hst;subst hst
  refine Done.wp ⟨.value r,r,w',S,φ,?_,.inl rfl,hR,hG⟩;simp only[execOp,ho,Ak,hr,Af,Aq]
 case call c =>
  obtain⟨vs,hv,he1⟩:=zA he;have hl:=zIS h.ev hv;cases hcc:c.callee with
  | invoke r m=>rw[hcc] at he1;simp at he1
  | builtin b =>
   simp only[hcc] at hp;rw[hcc] at he1;have hrun:(execOp a.eval o).run P w=(builtin b c.argTypes o.type (c.args.map λ| .const _=>true | _=>false) (c.args.toList.map a.eval).toArray).run P w:=by simp only[execOp,ho,resolve,hcc,<-amap];simp[invoke];rfl
   cases b <;> try (simp at he1 hp;done)
   case append =>
    obtain⟨r,w',S',φ',hr,hR,hG⟩:=zGY hD h hl he1 hok o.type o.dst hst;refine Done.wp ⟨.value r,r,w',S',φ',?_,.inl rfl,hR,hG⟩;rw[hrun];simp only[builtin,Ak,hr,Af,Aq]
   case copy =>
    obtain⟨hn,r,w',S',hr,hR,hG⟩:=zIx hD h hl he1 hok o.type o.dst (zg o);rw[hn] at hst;injection hst with hst;subst hst
    refine Done.wp ⟨.value r,r,w',S',φ,?_,.inl rfl,hR,hG⟩;rw[hrun];simp only[builtin,Ak,hr,Af,Aq]
   case len =>
    obtain⟨v,r,rfl,hr,hrv⟩:=lenE_sound hD h hl he1 o.type;exact(Q4 h (by rw[hrun];simp only[builtin,Ak,hr,Af,Aq]) hrv hst).wp
  | value f =>
   rw[hcc] at he1;simp only at he1;obtain⟨vf,hvf,he2⟩:=zA he1;obtain⟨g,v1,v2,hu,⟨fn,hf,hname,hbody⟩,hcalls⟩:=zI1 h hc (h.ev f vf hvf) hl he2 o.dst hst;have hrun:(execOp a.eval o).run P w=.ok (.enter g (v1++c.args.toList.map a.eval++v2).toArray) w:=by
    have e1:(c.args.map a.eval)=(c.args.toList.map a.eval).toArray:=amap _ _;have hn1:¬fn.name="runtime.NumGoroutine":=by simpa using hname
    have hb1:¬fn.body=none:=by intro e;rw[e] at hbody;simp at hbody
    simp[execOp,ho,resolve,hcc,hu,Deferred.ofValue,invoke,callFunc,hf,hn1,hb1,e1]
   unfold Oper.wp;rw[hrun,Oper.upon_enter];refine BH hcalls λe w' hh=>?_
   obtain⟨v,rfl,hP⟩:=hh;exact hP
theorem zCC{ops:Array Oper}{o:Oper}{tm:List AV}(h:TmOK E.L S φ w tm a){g:Bool}(hg:jv ops.toList o tm=some g):Bu o (yielded ops a.tmps)=g:=by
 unfold jv at hg;unfold Bu;cases hgd:o.guard with
 | none=>rw[hgd] at hg;injection hg with hg
 | some p =>
  obtain⟨j,want⟩:=p;rw[hgd] at hg;simp only at hg ⊢;split at hg
  case h_2=>simp at hg
  rename_i q hq;split at hg
  case h_2=>simp at hg
  rename_i t ht;have hy:yielded ops a.tmps j=match a.tmps[t]? with | some (.bool b)=>some b | _=>none:=by unfold yielded;rw[<-Array.getElem?_toList,hq];simp[ht];rfl
  split at hg
  ·rename_i b hb;injection hg with hg;subst hg
   obtain⟨u,hu,hr⟩:=h t _ hb;have:=RV.bool (show RV E.L S w (.bool b) u from hr)
   subst this;rw[hy,hu];cases b <;> cases want <;> rfl
  ·rename_i hb;injection hg with hg;subst hg
   obtain⟨u,hu,hr⟩:=h t _ hb;obtain⟨vs,rfl,_⟩:=(show RV E.L S w (.tup []) u from hr)
   rw[hy,hu];rfl
  ·simp at hg
theorem Rel.skip(h:Rel E base S φ st a w)(dst:Option Tmp):Rel E base S φ { st with tm:=j5 st.tm dst (.d (.tup [])) } (a.put dst undef) w :=
 h.put dst (v:=.d (.tup [])) ⟨[],rfl,rfl,λi a=>by simp at a⟩
theorem qB(hD:DOK P E){call:FuncId->List DV->Option CR}(hc:JC P E call){ops:Array Oper}{K:St->Option CR}{r:CR}{Q:Exit->Act->World->Prop} :
  ∀(rest:List Oper) (i:Nat) {S:Nat->Prop} {φ:Nat->Option Nat} {st:St} {a:Act} {w:World},rest=ops.toList.drop i->i<=ops.size->Qh (YU E call) ops.toList rest st K=some r->Rel E base S φ st a w ->
   (∀st' S' φ' a' w',K st'=some r->Rel E base S' φ' st' a' w'->Grow base S S' w w'->Q .normal a' w')->wpOps P ops Q (List.range' i (ops.size - i)) a w
 | [],i,S,φ,st,a,w,hr,hi,h,hR,hK=>by
  have:ops.size - i=0:=by have:=congrArg BF hr;simp at this;omega
  rw[this];exact hK st S φ a w h hR Grow.refl
 | o :: rest,i,S,φ,st,a,w,hr,hi,h,hR,hK=>by
  have hlt:i<ops.size:=by have:=congrArg BF hr;simp at this;omega
  have hcons:ops.toList.drop i=ops.toList[i] :: ops.toList.drop (i+1):=List.drop_eq_getElem_cons (by simpa using hlt)
  rw[hcons] at hr;injection hr with ho hrest
  have hoi:ops[i]? = some o:=by rw[ho];simp[hlt]
  have hn:ops.size - i=(ops.size - (i+1))+1:=by omega
  rw[hn,List.range'_succ];simp only[Qh] at h;obtain⟨g,hg,h⟩:=zA h;have hw:=zCC hR.tm hg;simp only[wpOps,hoi,hw];cases g with
  | true =>
   obtain⟨st',hs,h⟩:=zA h;refine .inl (BC (λa' w' hp=>?_) (zEF hD hc hR hs))
   obtain⟨S',φ',hR',hG⟩:=hp;exact qB hD hc rest (i+1) hrest hlt h hR' λst2 S2 φ2 a2 w2 k1 k2 k3=>hK st2 S2 φ2 a2 w2 k1 k2 (hG.trans k3)
  | false =>
   exact qB hD hc rest (i+1) hrest hlt h (hR.skip o.dst) λst2 S2 φ2 a2 w2 k1 k2 k3=>hK st2 S2 φ2 a2 w2 k1 k2 k3
end
end Go.Am
namespace Go.Am
open Go.Proofs
open Go Go.RowKit
section
variable{E:Env}{s:Nat}
theorem jx{l:List AV}(h:jS s l=true){v:AV}(hv:v∈l):zl s v=true:=by
 induction l with
 | nil=>simp at hv
 | cons x r ih =>
  simp only[jS,Ab] at h;rcases Au.1 hv with rfl | hv
  ·exact h.1
  ·exact ih h.2 hv
theorem qH{l:List AV}(h:∀v∈l,zl s v=true):jS s l=true:=by
 induction l with
 | nil=>rfl
 | cons x r ih=>simp only[jS,Ab];exact⟨h x (by simp),ih λv hv=>h v (by simp[hv])⟩
theorem qc(xs:List DV):jS s (xs.map .d)=true:=qH λv hv=>by obtain⟨x,_,rfl⟩:=List.mem_map.1 hv;rfl
theorem zDX{tag:Nat}{fs:List AV}(h:jS s fs=true):zl s (zGe tag fs)=true:=by unfold zGe;split <;> first | rfl | exact h
theorem noRef_mkFn{f:FuncId}{x y:List AV}(h:jS s x=true)(k:jS s y=true):zl s (mkFn f x y)=true:=by
 unfold mkFn;split
 ·rfl
 ·simp only[zl,h,k,BB]
theorem zB8{sz:Nat}{vs:List AV}(h:jS s vs=true):zn s (zGd sz vs)=true:=by unfold zGd;split <;> first | rfl | exact h
theorem zAA{tag i:Nat}{v x:AV}(h:zBt tag i v=some x)(hv:zl s v=true):zl s x=true:=by
 unfold zBt at h;split at h
 ·split at h
  ·split at h
   ·injection h with h;subst h;rfl
   ·simp at h
  ·simp at h
 ·split at h
  ·exact jx (by simpa[zl] using hv) (Ag h)
  ·simp at h
 ·simp at h
theorem Q9:∀(p:List (Nat×Nat)) {v x:AV},zDe p v=some x->zl s v=true->zl s x=true
 | [],v,x,h,hv=>by simp[zDe] at h;subst h;exact hv
 | (tag,i) :: p,v,x,h,hv=>by
  simp only[zDe] at h;split at h
  ·rename_i y hy;exact Q9 p h (zAA hy hv)
  ·simp at h
theorem qS{l:List AV}{i:Nat}{v:AV}(h:jS s l=true)(hv:zl s v=true):jS s (l.set i v)=true :=
 qH λx hx=>by
  rcases List.mem_or_eq_of_mem_set hx with hx | rfl
  ·exact jx h hx
  ·exact hv
theorem noRef_setF{tag i:Nat}{new v x:AV}(h:setF tag i new v=some x)(hn:zl s new=true)(hv:zl s v=true):zl s x=true:=by
 unfold setF at h;split at h
 ·split at h
  ·split at h
   ·split at h
    ·injection h with h;subst h;rfl
    ·injection h with h;subst h;exact qS (qc _) hn
   ·simp at h
  ·simp at h
 ·split at h
  ·split at h
   ·injection h with h;subst h;exact zDX (qS (by simpa[zl] using hv) hn)
   ·simp at h
  ·simp at h
 ·simp at h
theorem zES{L:Nat->List Nat}:∀(p:List (Nat×Nat)) {new v x:AV},zGu L p new v=some x->zl s new=true->zl s v=true->zl s x=true
 | [],new,v,x,h,hn,hv=>by simp[zGu] at h;subst h;exact hn
 | (tag,i) :: p,new,v,x,h,hn,hv=>by
  simp only[zGu] at h;split at h
  case h_2=>simp at h
  rename_i y hy;split at h
  case h_2=>simp at h
  rename_i z hz;split at h
  ·exact noRef_setF h (zES p hz hn (zAA hy hv)) hv
  ·simp at h
theorem zA5{sz e:Nat}{blk:Blk}{v:AV}(h:blk.get sz e=some v)(hb:zn s blk=true):zl s v=true:=by
 unfold Blk.get at h;split at h
 ·split at h
  ·split at h
   ·injection h with h;subst h;rfl
   ·simp at h
  ·simp at h
 ·split at h
  ·exact jx (by simpa[zn] using hb) (Ag h)
  ·simp at h
 ·simp at h
theorem noRefB_set{sz e:Nat}{blk blk':Blk}{v:AV}(h:blk.set sz e v=some blk')(hb:zn s blk=true)(hv:zl s v=true):zn s blk'=true:=by
 unfold Blk.set at h;split at h
 ·split at h
  ·split at h
   ·split at h
    ·injection h with h;subst h;rfl
    ·injection h with h;subst h;exact qS (qc _) hv
   ·simp at h
  ·simp at h
 ·split at h
  ·split at h
   ·injection h with h;subst h;exact qS (by simpa[zn] using hb) hv
   ·simp at h
  ·simp at h
 ·simp at h
theorem zBm{L:Nat->List Nat}{sizes:List Nat}:∀{ps:List (Nat×AV)} {vs r:List AV},fill L sizes ps vs=some r->(∀p∈ps,zl s p.2=true)->jS s vs=true->jS s r=true
 | [],vs,r,h,_,hv=>by simp[fill] at h;subst h;exact hv
 | (i,v) :: ps,vs,r,h,hp,hv=>by
  simp only[fill] at h;split at h
  ·exact zBm h (λp hm=>hp p (by simp[hm])) (qS hv (hp (i,v) (by simp)))
  ·simp at h
theorem zDO{hp:List (Option OB)}(hh:∀b ob,slot hp b=some ob->zn s ob.blk=true):∀(n:Nat) (v:AV),zl s v=true->s ∉ sites hp n v:=by
 intro n;induction n with
 | zero =>
  intro v hv;cases v <;> simp only[sites,zl] at * <;> simp_all
  all_goals (intro e;subst e;simp at hv)
 | succ n ih =>
  intro v hv;cases v with
  | d x=>simp[sites]
  | undef=>simp[sites]
  | omp b=>simp only[zl] at hv;simp only[sites,Bk];intro e;subst e;simp at hv
  | it b=>simp only[zl] at hv;simp only[sites,Bk];intro e;subst e;simp at hv
  | own b off len sz =>
   simp only[zl,Ap,beq_eq_false_iff_ne] at hv;simp only[sites,Au,not_or];refine⟨λe=>hv e.symm,?_⟩
   split
   ·rename_i z t xs hsl;intro hm;obtain⟨x,hx,hm⟩:=AM.1 hm;have hb:=hh b _ hsl;simp only[zn] at hb;exact ih x (jx hb (Az (Ay hx))) hm
   ·simp
  | ptr b sz e p =>
   simp only[zl,Ap,beq_eq_false_iff_ne] at hv;simp only[sites,Au,not_or];refine⟨λe=>hv e.symm,?_⟩
   split
   ·rename_i ob hsl;split
    ·rename_i v hvg;split
     ·rename_i x hx;exact ih x (Q9 p hx (zA5 hvg (hh b ob hsl)))
     ·simp
    ·simp
   ·simp
  | agg t fs =>
   simp only[zl] at hv;simp only[sites];intro hm;obtain⟨x,hx,hm⟩:=AM.1 hm;exact ih x (jx hv hx) hm
  | fn f x y =>
   simp only[zl,Ab] at hv;simp only[sites,An,not_or];constructor
   ·intro hm;obtain⟨z,hz,hm⟩:=AM.1 hm;exact ih z (jx hv.1 hz) hm
   ·intro hm;obtain⟨z,hz,hm⟩:=AM.1 hm;exact ih z (jx hv.2 hz) hm
theorem zB7{hp:List (Option OB)}(hh:∀b ob,slot hp b=some ob->zn s ob.blk=true):∀(vs:List AV),(∀v∈vs,zl s v=true)->s ∉ ja hp vs
 | [],_=>by simp[ja]
 | v :: vs,h=>by simp only[ja,An,not_or];exact⟨zDO hh _ v (h v (by simp)),zB7 hh vs λx hx=>h x (by simp[hx])⟩
structure Eff.off(s:Nat)(ef:Eff):Prop where
 v:zl s ef.v=true
 new:∀b,ef.new=some b->zn s b=true
 upd:∀b k,ef.upd=some (b,k)->b≠s/\zn s k=true
 kil:ef.kil≠some s
 frz:s ∉ ef.frz
theorem zv{v:AV}(h:zl s v=true):Eff.off s { v }:=⟨h,by simp,by simp,by simp,by simp⟩
theorem zCn{tm:List AV}:∀{xs:List Operand} {vs:List AV},evL E tm xs=some vs->∀v∈vs,∃x∈xs,evO E tm x=some v
 | [],vs,h,v,hv=>by simp[evL] at h;subst h;simp at hv
 | x :: xs,vs,h,v,hv=>by
  simp only[evL] at h;obtain⟨y,hy,h⟩:=zA h;obtain⟨ys,hys,h⟩:=zA h;injection h with h;subst h
  rcases Au.1 hv with rfl | hv
  ·exact⟨x,by simp,hy⟩
  ·obtain⟨z,hz,e⟩:=zCn hys v hv;exact⟨z,by simp[hz],e⟩
theorem zAq{tm:List AV}:∀{ps:List (Nat×Operand)} {vs:List (Nat×AV)},JZ E tm ps=some vs->∀p∈vs,∃q∈ps,evO E tm q.2=some p.2
 | [],vs,h,v,hv=>by simp[JZ] at h;subst h;simp at hv
 | (i,x) :: xs,vs,h,v,hv=>by
  simp only[JZ] at h;obtain⟨y,hy,h⟩:=zA h;obtain⟨ys,hys,h⟩:=zA h;injection h with h;subst h
  rcases Au.1 hv with rfl | hv
  ·exact⟨(i,x),by simp,hy⟩
  ·obtain⟨z,hz,e⟩:=zAq hys v hv;exact⟨z,by simp[hz],e⟩
theorem zBX{hp:List (Option OB)}(hh:∀b ob,slot hp b=some ob->zn s ob.blk=true){sz:Nat}{v:AV}{el:List DV×List Nat}(h:jg hp sz v=some el):s ∉ el.2:=by
 unfold jg at h;split at h
 ·injection h with h;subst h;simp
 ·split at h
  ·injection h with h;subst h;simp
  ·simp at h
 ·split at h
  ·split at h
   ·split at h
    ·injection h with h;subst h;simp
    ·simp at h
   ·rename_i hsl;split at h
    ·split at h
     ·injection h with h;subst h
      intro hm;obtain⟨x,hx,hm⟩:=AM.1 hm;have hb:=hh _ _ hsl;simp only[zn] at hb;exact zDO hh _ x (jx hb (Az (Ay hx))) hm
     ·simp at h
    ·simp at h
   ·simp at h
  ·simp at h
 ·simp at h
end
end Go.Am
namespace Go.Am
open Go.Proofs
open Go Go.RowKit
theorem noRef_ne{b s:Nat}{sz e:Nat}{p:List (Nat×Nat)}(h:zl s (.ptr b sz e p)=true):b≠s:=by simpa[zl] using h
section
variable{E:Env}{s:Nat}{hp:List (Option OB)}
theorem zBK{v:AV}{blk:Blk}(h:zl s v=true)(hb:zn s blk=true):Eff.off s { v,new:=some blk } :=
 ⟨h,λb e=>by injection e with e;subst e;exact hb,by simp,by simp,by simp⟩
theorem zHt{v:AV}{b:Nat}{blk:Blk}(h:zl s v=true)(hb:b≠s)(hk:zn s blk=true):Eff.off s { v,upd:=some (b,blk) } :=
 ⟨h,by simp,λb' k e=>by injection e with e;injection e with e1 e2;subst e1;subst e2;exact⟨hb,hk⟩,by simp,by simp⟩
theorem off_loadE(hh:∀b ob,slot hp b=some ob->zn s ob.blk=true){t:TypeId}{a:AV}(ha:zl s a=true){ef:Eff}(h:Yg E t hp a=some ef):Eff.off s ef:=by
 unfold Yg at h;obtain⟨td,_,h⟩:=zA h;split at h
 ·obtain⟨_,h⟩:=zG h;simp[zk] at h;subst h;exact zv rfl
 ·obtain⟨ob,hob,h⟩:=zA h;obtain⟨v,hv,h⟩:=zA h;obtain⟨x,hx,h⟩:=zA h;obtain⟨_,h⟩:=zG h;simp[zk] at h;subst h;exact zv (Q9 _ hx (zA5 hv (hh _ ob hob)))
 ·simp at h
theorem off_storeE(hh:∀b ob,slot hp b=some ob->zn s ob.blk=true){t:TypeId}{a x:AV}(ha:zl s a=true)(hx:zl s x=true){ef:Eff}(h:Y5 E t hp a x=some ef):Eff.off s ef:=by
 unfold Y5 at h;obtain⟨td,_,h⟩:=zA h;split at h
 ·obtain⟨ob,hob,h⟩:=zA h;obtain⟨_,h⟩:=zG h;obtain⟨_,h⟩:=zG h;obtain⟨v,hv,h⟩:=zA h;obtain⟨y,hy,h⟩:=zA h;obtain⟨_,h⟩:=zG h;obtain⟨blk,hb,h⟩:=zA h;injection h with h;subst h
  have hvr:=zA5 hv (hh _ ob hob);exact zHt rfl (noRef_ne ha) (noRefB_set hb (hh _ ob hob) (zES _ hy hx hvr))
 ·simp at h
theorem off_build{t:TypeId}{ps:List (Nat×AV)}(hp:∀p∈ps,zl s p.2=true){ef:Eff}(h:zAZ E t ps=some ef):Eff.off s ef:=by
 have key:∀{tag:Nat} {z:DV},Qt E tag z ps=some ef->Eff.off s ef:=by
  intro tag z h;unfold Qt at h;split at h
  ·split at h
   ·obtain⟨fs,hf,h⟩:=zA h;simp[zk] at h;subst h;exact zv (zDX (zBm hf hp (qc _)))
   ·simp at h
  ·simp at h
 unfold zAZ at h;obtain⟨td,_,h⟩:=zA h;split at h
 ·exact key h
 ·exact key h
 ·simp at h
theorem zD3{t:TypeId}{dst n:Nat}(hs:s≠dst){ps:List (Nat×AV)}(hp:∀p∈ps,zl s p.2=true){ef:Eff}(h:JM E t dst n ps=some ef):Eff.off s ef:=by
 unfold JM at h;obtain⟨td,_,h⟩:=zA h;split at h
 case h_2=>simp at h
 obtain⟨ed,_,h⟩:=zA h;obtain⟨_,h⟩:=zG h;obtain⟨vs,hv,h⟩:=zA h;split at h
 ·simp[zk] at h;subst h;exact zv rfl
 ·injection h with h;subst h
  exact zBK (by simp[zl];exact AG hs) (zB8 (zBm hv hp (qH λv hv=>by rw[List.mem_replicate] at hv;rw[hv.2];rfl)))
theorem off_sliceE{t:TypeId}{x:AV}(hx:zl s x=true){lo hi mx:Option AV}{ef:Eff}(h:Yc E t x lo hi mx=some ef):Eff.off s ef:=by
 unfold Yc at h;obtain⟨td,_,h⟩:=zA h;obtain⟨l,_,h⟩:=zA h;split at h
 ·obtain⟨_,_,h⟩:=zA h;obtain⟨_,h⟩:=zG h;simp[zk] at h;subst h;exact zv rfl
 ·obtain⟨_,_,h⟩:=zA h;obtain⟨_,_,h⟩:=zA h;obtain⟨_,h⟩:=zG h;split at h
  ·simp[zk] at h;subst h;exact zv rfl
  ·obtain⟨_,_,h⟩:=zA h;obtain⟨_,h⟩:=zG h;simp[zk] at h;subst h;exact zv rfl
 ·obtain⟨_,_,h⟩:=zA h;obtain⟨_,_,h⟩:=zA h;obtain⟨_,h⟩:=zG h;split at h
  ·simp[zk] at h;subst h;exact zv rfl
  ·obtain⟨_,_,h⟩:=zA h;obtain⟨_,h⟩:=zG h;simp[zk] at h;subst h;exact zv rfl
 ·obtain⟨_,_,h⟩:=zA h;obtain⟨_,_,h⟩:=zA h;obtain⟨_,h⟩:=zG h;simp[zk] at h;subst h;exact zv (by simpa[zl] using hx)
 ·simp at h
theorem zGM{t:TypeId}{x:AV}(hx:zl s x=true){i:Nat}{ef:Eff}(h:jy E t x i=some ef):Eff.off s ef:=by
 unfold jy at h;obtain⟨td,_,h⟩:=zA h;split at h
 ·split at h
  ·obtain⟨_,h⟩:=zG h;simp[zk] at h;subst h;exact zv (by simpa[zl] using hx)
  ·split at h
   ·split at h
    ·simp[zk] at h;subst h;exact zv rfl
    ·simp at h
   ·simp at h
  ·simp at h
 ·simp at h
theorem off_field{t:TypeId}{x:AV}(hx:zl s x=true){i:Nat}{ef:Eff}(h:zBT E t x i=some ef):Eff.off s ef:=by
 unfold zBT at h;obtain⟨td,_,h⟩:=zA h;split at h
 ·obtain⟨_,_,h⟩:=zA h;obtain⟨_,_,h⟩:=zA h;obtain⟨v,hv,h⟩:=zA h;obtain⟨_,h⟩:=zG h;simp[zk] at h;subst h;exact zv (zAA hv hx)
 ·simp at h
theorem off_index{t:TypeId}{x ix:AV}(hx:zl s x=true){ef:Eff}(h:qJ E t x ix=some ef):Eff.off s ef:=by
 unfold qJ at h;obtain⟨td,_,h⟩:=zA h;obtain⟨i,_,h⟩:=zA h;obtain⟨_,h⟩:=zG h;split at h
 ·obtain⟨_,_,h⟩:=zA h;obtain⟨v,hv,h⟩:=zA h;obtain⟨_,h⟩:=zG h;simp[zk] at h;subst h;exact zv (zAA hv hx)
 ·split at h
  ·split at h
   ·simp[zk] at h;subst h;exact zv rfl
   ·simp at h
  ·simp at h
 ·simp at h
theorem zGL{t:TypeId}{x ix:AV}(hx:zl s x=true){ef:Eff}(h:jb E t x ix=some ef):Eff.off s ef:=by
 unfold jb at h;obtain⟨td,_,h⟩:=zA h;obtain⟨i,_,h⟩:=zA h;split at h
 ·obtain⟨_,_,h⟩:=zA h;split at h
  ·obtain⟨_,h⟩:=zG h;split at h
   ·simp[zk] at h;subst h;exact zv rfl
   ·simp at h
  ·obtain⟨_,h⟩:=zG h;simp[zk] at h;subst h;exact zv (by simpa[zl] using hx)
  ·simp at h
 ·split at h
  ·obtain⟨_,h⟩:=zG h;simp[zk] at h;subst h;exact zv (by simpa[zl] using hx)
  ·split at h
   ·obtain⟨_,h⟩:=zG h;split at h
    ·simp[zk] at h;subst h;exact zv rfl
    ·simp at h
   ·simp at h
  ·simp at h
 ·simp at h
theorem off_lookup{t:TypeId}{m k:AV}{ok:Bool}{ef:Eff}(h:JX E t hp m k ok=some ef):Eff.off s ef:=by
 unfold JX at h;obtain⟨td,_,h⟩:=zA h;split at h
 ·obtain⟨_,_,h⟩:=zA h;obtain⟨_,_,h⟩:=zA h;split at h
  ·obtain⟨_,h⟩:=zG h;obtain⟨_,_,h⟩:=zA h;obtain⟨r,_,h⟩:=zA h;split at h <;> (simp[zk] at h;subst h;exact zv rfl)
  ·simp at h
 ·simp at h
theorem zBL{t:TypeId}{m k x:AV}(hm:zl s m=true){ef:Eff}(h:jN E t hp m k x=some ef):Eff.off s ef:=by
 unfold jN at h;obtain⟨td,_,h⟩:=zA h;split at h
 ·obtain⟨_,_,h⟩:=zA h;obtain⟨_,_,h⟩:=zA h;split at h
  ·obtain⟨_,h⟩:=zG h;obtain⟨_,h⟩:=zG h;split at h
   ·obtain⟨_,_,h⟩:=zA h;injection h with h;subst h
    exact zHt rfl (by simpa[zl] using hm) rfl
   ·simp at h
  ·simp at h
 ·simp at h
theorem off_next{b:Bool}{x:AV}(hx:zl s x=true){ef:Eff}(h:zAW hp b x=some ef):Eff.off s ef:=by
 unfold zAW at h;split at h
 ·obtain⟨_,h⟩:=zG h;split at h
  ·split at h
   ·injection h with h;subst h
    exact zHt rfl (by simpa[zl] using hx) rfl
   ·simp[zk] at h;subst h;exact zv rfl
  ·simp at h
 ·simp at h
theorem off_call(hh:∀b ob,slot hp b=some ob->zn s ob.blk=true){call:FuncId->List DV->Option CR}{dst:Nat}(hs:s≠dst){f:AV}{args:List AV}(hf:zl s f=true)(ha:∀v∈args,zl s v=true){ef:Eff}
  (h:qs call dst hp f args=some ef):Eff.off s ef:=by
 unfold qs at h;obtain⟨c,hc,h⟩:=zA h;obtain⟨ds,_,h⟩:=zA h;obtain⟨r,_,h⟩:=zA h;injection h with h;subst h
 have hn:s ∉ ja hp (c.2.1++args++c.2.2):=by
  have hcc:jS s c.2.1=true/\jS s c.2.2=true:=by
   unfold YY at hc;split at hc
   ·injection hc with hc;subst hc;exact⟨qc _,qc _⟩
   ·injection hc with hc;subst hc;simpa[zl] using hf
   ·simp at hc
  refine zB7 hh _ λv hv=>?_
  rcases An.1 hv with hv | hv
  ·rcases An.1 hv with hv | hv
   ·exact jx hcc.1 hv
   ·exact ha v hv
  ·exact jx hcc.2 hv
 generalize ja hp (c.2.1++args++c.2.2)=ss at hn;cases r with
 | val x =>
  refine⟨rfl,by simp[deliver],by simp[deliver],by simp[deliver],?_⟩
  simp only[deliver];cases ss with
  | nil=>simp
  | cons b ss=>cases Y2 x <;> simp_all
 | fresh sz xs =>
  refine⟨by simp[deliver,zl];exact AG hs,λb e=>?_,by simp[deliver],by simp[deliver],hn⟩
  simp only[deliver,Ae] at e;subst e;rfl
theorem off_append(hh:∀b ob,slot hp b=some ob->zn s ob.blk=true){ts:List TypeId}{dst:Nat}(hs:s≠dst){args:List AV}(ha:∀v∈args,zl s v=true){ef:Eff}(h:Jb E ts dst hp args=some ef):Eff.off s ef:=by
 unfold Jb at h;split at h
 case h_2=>simp at h
 rename_i x y;split at h
 case h_2=>simp at h
 obtain⟨_,h⟩:=zG h;obtain⟨td,_,h⟩:=zA h;split at h
 case h_2=>simp at h
 obtain⟨ed,_,h⟩:=zA h;obtain⟨bs,hbs,h⟩:=zA h;obtain⟨el,hel,h⟩:=zA h;obtain⟨_,h⟩:=zG h;have hx:=ha x (by simp)
 have hb:bs.2≠some s:=by
  unfold YR at hbs;split at hbs
  ·injection hbs with hbs;subst hbs;simp
  ·split at hbs
   ·split at hbs
    ·split at hbs
     ·injection hbs with hbs;subst hbs
      simp only[zl,Ap,beq_eq_false_iff_ne] at hx;simpa using hx
     ·simp at hbs
    ·simp at hbs
   ·simp at hbs
  ·simp at hbs
 split at h
 ·simp[zk] at h;subst h;exact zv rfl
 ·injection h with h;subst h
  exact⟨by simp[zl];exact AG hs,λb e=>by injection e with e;subst e;rfl,by simp,hb,zBX hh hel⟩
theorem off_copy(hh:∀b ob,slot hp b=some ob->zn s ob.blk=true){ts:List TypeId}{args:List AV}(ha:∀v∈args,zl s v=true){ef:Eff}(h:zBB E ts hp args=some ef):Eff.off s ef:=by
 unfold zBB at h;split at h
 case h_2=>simp at h
 rename_i x y;split at h
 case h_2=>simp at h
 obtain⟨td,_,h⟩:=zA h;split at h
 case h_2=>simp at h
 obtain⟨ed,_,h⟩:=zA h;have hx:=ha x (by simp)
 split at h
 case h_2=>simp at h
 obtain⟨_,h⟩:=zG h;split at h
 case h_2=>simp at h
 obtain⟨_,h⟩:=zG h;obtain⟨el,hel,h⟩:=zA h;injection h with h;subst h
 exact⟨rfl,by simp,λb k e=>by injection e with e;injection e with e1 e2;subst e1;subst e2;exact⟨by simpa[zl] using hx,rfl⟩,by simp,zBX hh hel⟩
theorem off_len{ts:List TypeId}{args:List AV}{ef:Eff}(h:zCA E ts hp args=some ef):Eff.off s ef:=by
 unfold zCA at h;split at h
 case h_2=>simp at h
 split at h
 case h_2=>simp at h
 obtain⟨td,_,h⟩:=zA h;split at h
 all_goals first
  | (simp[zk] at h;subst h;exact zv rfl)
  | (obtain⟨_,_,h⟩:=zA h;simp[zk] at h;subst h;exact zv rfl)
  | (simp at h)
theorem off_max{args:List AV}{ef:Eff}(h:maxE args=some ef):Eff.off s ef:=by
 unfold maxE at h;split at h
 ·obtain⟨_,_,h⟩:=zA h;simp[zk] at h;subst h;exact zv rfl
 ·simp at h
theorem off_min{args:List AV}{ef:Eff}(h:minE args=some ef):Eff.off s ef:=by
 unfold minE at h;split at h
 ·obtain⟨_,_,h⟩:=zA h;simp[zk] at h;subst h;exact zv rfl
 ·simp at h
theorem zEj{call:FuncId->List DV->Option CR}{op:Op}{dst:Nat}{tm:List AV}{ef:Eff}(h:jj E call op dst tm hp=some ef)(hs:s≠dst)(ho:∀x∈op.operands,∀v,evO E tm x=some v->zl s v=true)
  (hh:∀b ob,slot hp b=some ob->zn s ob.blk=true):Eff.off s ef:=by
 cases op <;> simp only[jj] at h <;> try (simp at h;done)
 case move x =>
  obtain⟨v,hv,h⟩:=zA h;simp[zk] at h;subst h;exact zv (ho x (by simp[Aa]) v hv)
 case assign x =>
  obtain⟨v,hv,h⟩:=zA h;simp[zk] at h;subst h;exact zv (ho x (by simp[Aa]) v hv)
 case pick c x y =>
  obtain⟨v,_,h⟩:=zA h;obtain⟨b,_,h⟩:=zA h;obtain⟨u,hu,h⟩:=zA h;simp[zk] at h;subst h;cases b
  ·exact zv (ho y (by simp[Aa]) u hu)
  ·exact zv (ho x (by simp[Aa]) u hu)
 case alloc t =>
  obtain⟨td,_,h⟩:=zA h;obtain⟨_,h⟩:=zG h;injection h with h;subst h
  exact zBK (by simp[zl];exact AG hs) rfl
 case box t x =>
  obtain⟨v,hv,h⟩:=zA h;obtain⟨td,_,h⟩:=zA h;obtain⟨_,h⟩:=zG h;injection h with h;subst h
  exact zBK (by simp[zl];exact AG hs) (zB8 (by simp[jS,ho x (by simp[Aa]) v hv]))
 case build t ps =>
  obtain⟨vs,hv,h⟩:=zA h;refine off_build (λp hp=>?_) h
  obtain⟨q,hq,e⟩:=zAq hv p hp;exact ho q.2 (by simp only[Aa];simp;exact⟨q.1,by simpa using hq⟩) _ e
 case buildSlice t n ps =>
  obtain⟨vs,hv,h⟩:=zA h;refine zD3 hs (λp hp=>?_) h
  obtain⟨q,hq,e⟩:=zAq hv p hp;exact ho q.2 (by simp only[Aa];simp;exact⟨q.1,by simpa using hq⟩) _ e
 case load t x =>
  obtain⟨v,hv,h⟩:=zA h;exact off_loadE hh (ho x (by simp[Aa]) v hv) h
 case store t x y =>
  obtain⟨v,hv,h⟩:=zA h;obtain⟨u,hu,h⟩:=zA h;exact off_storeE hh (ho x (by simp[Aa]) v hv) (ho y (by simp[Aa]) u hu) h
 case nilCheck x =>
  obtain⟨v,hv,h⟩:=zA h;have hn:=ho x (by simp[Aa]) v hv
  unfold Yo at h;split at h <;> try (simp at h;done)
  simp[zk] at h;subst h;exact zv hn
 case binOp op t x y c =>
  obtain⟨v,hv,h⟩:=zA h;obtain⟨u,hu,h⟩:=zA h;split at h
  ·obtain⟨_,h⟩:=zG h;obtain⟨_,_,h⟩:=zA h;simp[zk] at h;subst h;exact zv rfl
  ·simp at h
 case unOp op t x =>
  obtain⟨v,hv,h⟩:=zA h;split at h
  ·obtain⟨_,_,h⟩:=zA h;simp[zk] at h;subst h;exact zv rfl
  ·simp at h
 case convert t1 t2 x =>
  obtain⟨v,hv,h⟩:=zA h;split at h
  ·obtain⟨_,_,h⟩:=zA h;simp[zk] at h;subst h;exact zv rfl
  ·simp at h
 case makeFunc fn fs cs =>
  cases fn <;> try (simp[jj] at h;done)
  simp only[jj] at h;obtain⟨x,hx,h⟩:=zA h;obtain⟨y,hy,h⟩:=zA h;obtain⟨_,h⟩:=zG h;simp[zk] at h;subst h;refine zv (noRef_mkFn (qH λv hv=>?_) (qH λv hv=>?_))
  ·obtain⟨z,hz,e⟩:=zCn hx v hv;exact ho z (by simp[Aa];exact .inl (by simpa using hz)) v e
  ·obtain⟨z,hz,e⟩:=zCn hy v hv;exact ho z (by simp[Aa];exact .inr (by simpa using hz)) v e
 case makeMap t r =>
  cases r with
  | some r=>simp at h
  | none =>
   simp only at h;obtain⟨td,_,h⟩:=zA h;split at h
   ·injection h with h;subst h
    exact zBK (by simp[zl];exact AG hs) rfl
   ·simp at h
 case makeSlice t x y =>
  obtain⟨v,hv,h⟩:=zA h;obtain⟨u,hu,h⟩:=zA h;unfold Jq at h;obtain⟨td,_,h⟩:=zA h;split at h
  ·obtain⟨_,_,h⟩:=zA h;obtain⟨_,_,h⟩:=zA h;obtain⟨_,_,h⟩:=zA h;obtain⟨_,h⟩:=zG h;injection h with h;subst h
   exact zBK (by simp[zl];exact AG hs) rfl
  ·simp at h
 case slice t x lo hi mx =>
  obtain⟨v,hv,h⟩:=zA h;obtain⟨_,_,h⟩:=zA h;obtain⟨_,_,h⟩:=zA h;obtain⟨_,_,h⟩:=zA h;exact off_sliceE (ho x (by simp[Aa]) v hv) h
 case fieldAddr t x i =>
  obtain⟨v,hv,h⟩:=zA h;exact zGM (ho x (by simp[Aa]) v hv) h
 case field t x i =>
  obtain⟨v,hv,h⟩:=zA h;exact off_field (ho x (by simp[Aa]) v hv) h
 case indexAddr t x i =>
  obtain⟨v,hv,h⟩:=zA h;obtain⟨_,_,h⟩:=zA h;exact zGL (ho x (by simp[Aa]) v hv) h
 case index t x i =>
  obtain⟨v,hv,h⟩:=zA h;obtain⟨_,_,h⟩:=zA h;exact off_index (ho x (by simp[Aa]) v hv) h
 case lookup t m k ok =>
  obtain⟨_,_,h⟩:=zA h;obtain⟨_,_,h⟩:=zA h;exact off_lookup h
 case mapUpdate t m k x =>
  obtain⟨v,hv,h⟩:=zA h;obtain⟨_,_,h⟩:=zA h;obtain⟨_,_,h⟩:=zA h;exact zBL (ho m (by simp[Aa]) v hv) h
 case insert t m k x =>
  obtain⟨v,hv,h⟩:=zA h;obtain⟨_,_,h⟩:=zA h;obtain⟨_,_,h⟩:=zA h;exact zBL (ho m (by simp[Aa]) v hv) h
 case range t x =>
  obtain⟨td,_,h⟩:=zA h;split at h
  ·obtain⟨v,hv,h⟩:=zA h;unfold zGG at h;split at h
   ·injection h with h;subst h
    exact zBK (by simp[zl];exact AG hs) rfl
   ·simp at h
  ·simp at h
 case next x b =>
  obtain⟨v,hv,h⟩:=zA h;exact off_next (ho x (by simp[Aa]) v hv) h
 case extract x i =>
  obtain⟨v,hv,h⟩:=zA h;unfold Qp at h;split at h
  ·split at h
   ·simp[zk] at h;subst h;exact zv rfl
   ·simp at h
  ·simp at h
 case call c =>
  obtain⟨vs,hv,h⟩:=zA h;have ha:∀v∈vs,zl s v=true:=λv hm=>by obtain⟨z,hz,e⟩:=zCn hv v hm;exact ho z (by simp only[Aa,AD];simp;exact .inr (by simpa using hz)) v e
  cases hc:c.callee with
  | invoke r m=>rw[hc] at h;simp at h
  | value f =>
   rw[hc] at h;simp only at h;obtain⟨vf,hvf,h⟩:=zA h;exact off_call hh hs (ho f (by simp only[Aa,AD,hc];simp) vf hvf) ha h
  | builtin b =>
   rw[hc] at h;cases b <;> try (simp at h;done)
   ·exact off_append hh hs ha h
   ·exact off_copy hh ha h
   ·exact off_len h
   ·exact off_max h
   ·exact off_min h
end
end Go.Am
namespace Go.Am
open Go.Proofs
open Go Go.RowKit
section
variable{E:Env}{X:Nat->Prop}{hp hp':List (Option OB)}
def nrX(X:Nat->Prop)(v:AV):Prop:=∀s,X s->zl s v=true
structure HSim(X:Nat->Prop)(hp hp':List (Option OB)):Prop where
 blk:∀b,¬X b->(slot hp b).map OB.blk=(slot hp' b).map OB.blk
 ref:∀b ob,¬X b->slot hp b=some ob->∀s,X s->zn s ob.blk=true
theorem HSim.some(h:HSim X hp hp'){b:Nat}(hb:¬X b){ob:OB}(hs:slot hp b=some ob):∃z,slot hp' b=some ⟨z,ob.blk⟩:=by
 have:=h.blk b hb;rw[hs] at this;cases h':slot hp' b with
 | none=>rw[h'] at this;simp at this
 | some ob' =>
  rw[h'] at this;obtain⟨z,blk⟩:=ob';simp only[AH,Ae] at this;exact⟨z,by rw[this]⟩
theorem HSim.none(h:HSim X hp hp'){b:Nat}(hb:¬X b)(hs:slot hp b=none):slot hp' b=none:=by
 have:=h.blk b hb;rw[hs] at this;cases h':slot hp' b with
 | none=>rfl
 | some ob'=>rw[h'] at this;simp at this
theorem nrX.own{b off len sz:Nat}(h:nrX X (.own b off len sz)):¬X b:=λhb=>by have:=h b hb;simp[zl] at this
theorem nrX.ptr{b sz e:Nat}{p:List (Nat×Nat)}(h:nrX X (.ptr b sz e p)):¬X b:=λhb=>by have:=h b hb;simp[zl] at this
theorem nrX.omp{b:Nat}(h:nrX X (.omp b)):¬X b:=λhb=>by have:=h b hb;simp[zl] at this
theorem nrX.it{b:Nat}(h:nrX X (.it b)):¬X b:=λhb=>by have:=h b hb;simp[zl] at this
theorem nrX.mem{l:List AV}(h:∀s,X s->jS s l=true){v:AV}(hv:v∈l):nrX X v:=λs hs=>jx (h s hs) hv
theorem Yf{α β:Type}{f g:α->Option β}:∀{l:List α},(∀x∈l,f x=g x)->zAD f l=zAD g l
 | [],_=>rfl
 | x :: l,h=>by simp only[zAD,h x (by simp),Yf (l:=l) λy hy=>h y (by simp[hy])]
theorem jH{α β:Type}{f g:α->List β}:∀{l:List α},(∀x∈l,f x=g x)->l.flatMap f=l.flatMap g
 | [],_=>rfl
 | x :: l,h=>by simp only[List.flatMap_cons,h x (by simp),jH (l:=l) λy hy=>h y (by simp[hy])]
theorem zFp(h:HSim X hp hp'):∀(n:Nat) (v:AV),nrX X v->snap hp n v=snap hp' n v/\sites hp n v=sites hp' n v:=by
 intro n;induction n with
 | zero =>
  intro v hv;cases v with
  | omp b =>
   refine⟨?_,rfl⟩;simp only[snap];cases hb:slot hp b with
   | none=>rw[h.none hv.omp hb]
   | some ob=>obtain⟨z,hz⟩:=h.some hv.omp hb;rw[hz];cases ob;rename_i z' blk;cases blk <;> rfl
  | _=>exact⟨rfl,rfl⟩
 | succ n ih =>
  intro v hv;cases v with
  | d x=>exact⟨rfl,rfl⟩
  | undef=>exact⟨rfl,rfl⟩
  | it b=>exact⟨rfl,rfl⟩
  | omp b =>
   refine⟨?_,rfl⟩;simp only[snap];cases hb:slot hp b with
   | none=>rw[h.none hv.omp hb]
   | some ob=>obtain⟨z,hz⟩:=h.some hv.omp hb;rw[hz];cases ob;rename_i z' blk;cases blk <;> rfl
  | own b off len sz =>
   cases hb:slot hp b with
   | none=>simp only[snap,sites,hb,h.none hv.own hb,and_self]
   | some ob =>
    obtain⟨z,hz⟩:=h.some hv.own hb;have hr:=h.ref b ob hv.own hb;obtain⟨z0,blk⟩:=ob;cases blk with
    | ac t xs =>
     have hx:∀x∈(xs.drop off).take len,nrX X x:=λx hx=>nrX.mem (λs hs=>by have:=hr s hs;simpa[zn] using this) (Az (Ay hx))
     simp only[snap,sites,hb,hz,Yf λx hm=>(ih x (hx x hm)).1,jH λx hm=>(ih x (hx x hm)).2,and_self]
    | dc t xs=>simp only[snap,sites,hb,hz,and_self]
    | mp ks vs=>simp only[snap,sites,hb,hz,and_self]
    | sit t p=>simp only[snap,sites,hb,hz,and_self]
  | ptr b sz e p =>
   cases hb:slot hp b with
   | none=>simp only[snap,sites,hb,h.none hv.ptr hb,and_self]
   | some ob =>
    obtain⟨z,hz⟩:=h.some hv.ptr hb;have hr:=h.ref b ob hv.ptr hb;simp only[snap,sites,hb,hz];cases hg:ob.blk.get sz e with
    | none=>exact⟨rfl,rfl⟩
    | some y =>
     simp only;cases hp:zDe p y with
     | none=>exact⟨rfl,rfl⟩
     | some x =>
      have:=ih x λs hs=>Q9 p hp (zA5 hg (hr s hs))
      simp only[this.1,this.2,and_self]
  | agg t fs =>
   have hx:∀x∈fs,nrX X x:=λx hx=>nrX.mem (λs hs=>by have:=hv s hs;simpa[zl] using this) hx
   simp only[snap,sites,Yf λx hm=>(ih x (hx x hm)).1,jH λx hm=>(ih x (hx x hm)).2,and_self]
  | fn f a c =>
   have hx:∀x∈a,nrX X x:=λx hx=>nrX.mem (λs hs=>by have:=hv s hs;simp only[zl,Ab] at this;exact this.1) hx
   have hy:∀x∈c,nrX X x:=λx hx=>nrX.mem (λs hs=>by have:=hv s hs;simp only[zl,Ab] at this;exact this.2) hx
   simp only[snap,sites,Yf λx hm=>(ih x (hx x hm)).1,jH λx hm=>(ih x (hx x hm)).2,Yf λx hm=>(ih x (hy x hm)).1,jH λx hm=>(ih x (hy x hm)).2,and_self]
theorem zGp(h:HSim X hp hp'):∀(vs:List AV),(∀v∈vs,nrX X v)->Ji hp vs=Ji hp' vs/\ja hp vs=ja hp' vs
 | [],_=>⟨rfl,rfl⟩
 | v :: vs,hv=>by
  have h1:=zFp h zx v (hv v (by simp))
  have h2:=zGp h vs λx hx=>hv x (by simp[hx])
  simp only[Ji,ja,h1.1,h1.2,h2.1,h2.2,and_self]
theorem zDg(h:HSim X hp hp'){sz:Nat}{v:AV}(hv:nrX X v):jg hp sz v=jg hp' sz v:=by
 cases v with
 | own b off len s =>
  simp only[jg];cases hb:slot hp b with
  | none=>rw[h.none hv.own hb]
  | some ob =>
   obtain⟨z,hz⟩:=h.some hv.own hb;have hr:=h.ref b ob hv.own hb;obtain⟨z0,blk⟩:=ob;rw[hz];cases blk with
   | ac t xs =>
    have hx:∀x∈(xs.drop off).take len,nrX X x:=λx hx=>nrX.mem (λs hs=>by have:=hr s hs;simpa[zn] using this) (Az (Ay hx))
    simp only[Yf λx hm=>(zFp h zx x (hx x hm)).1,jH λx hm=>(zFp h zx x (hx x hm)).2]
   | _=>rfl
 | d x=>cases x <;> rfl
 | _=>rfl
theorem zG5(h:HSim X hp hp'){v:AV}(hv:nrX X v):zAC hp v=zAC hp' v:=by
 cases v with
 | omp b =>
  simp only[zAC];cases hb:slot hp b with
  | none=>rw[h.none hv.omp hb]
  | some ob=>obtain⟨z,hz⟩:=h.some hv.omp hb;rw[hz];cases ob;rename_i z' blk;cases blk <;> rfl
 | d x=>cases x <;> rfl
 | _=>rfl
theorem loadE_sim(h:HSim X hp hp'){t:TypeId}{v:AV}(hv:nrX X v):Yg E t hp v=Yg E t hp' v:=by
 cases v with
 | ptr b sz e p =>
  simp only[Yg];cases hb:slot hp b with
  | none=>rw[h.none hv.ptr hb]
  | some ob=>obtain⟨z,hz⟩:=h.some hv.ptr hb;rw[hz];rfl
 | d x=>cases x <;> rfl
 | _=>rfl
theorem callE_sim(h:HSim X hp hp'){call:FuncId->List DV->Option CR}{dst:Nat}{f:AV}{args:List AV}(hf:nrX X f)(ha:∀v∈args,nrX X v):qs call dst hp f args=qs call dst hp' f args:=by
 unfold qs;cases hc:YY f with
 | none=>rfl
 | some c =>
  have hcc:∀v∈c.2.1++args++c.2.2,nrX X v:=by
   have h12:∀s,X s->jS s c.2.1=true/\jS s c.2.2=true:=by
    intro s hs;unfold YY at hc;split at hc
    ·injection hc with hc;subst hc;exact⟨qc _,qc _⟩
    ·injection hc with hc;subst hc;have:=hf s hs;simpa[zl] using this
    ·simp at hc
   intro v hv;rcases An.1 hv with hv | hv
   ·rcases An.1 hv with hv | hv
    ·exact nrX.mem (λs hs=>(h12 s hs).1) hv
    ·exact ha v hv
   ·exact nrX.mem (λs hs=>(h12 s hs).2) hv
  obtain⟨h1,h2⟩:=zGp h _ hcc;simp only[zL,h1,h2]
def JD:Op->Bool
 | .store _ _ _ | .mapUpdate _ _ _ _ | .insert _ _ _ _ | .next _ _=>true
 | .call c=>match c.callee with | .builtin .copy=>true | _=>false
 | _=>false
theorem zA9{tm tm':List AV}:∀{xs:List Operand},(∀x∈xs,evO E tm x=evO E tm' x)->evL E tm xs=evL E tm' xs
 | [],_=>rfl
 | x :: xs,h=>by simp only[evL,h x (by simp),zA9 (xs:=xs) λy hy=>h y (by simp[hy])]
theorem QD{tm tm':List AV}:∀{ps:List (Nat×Operand)},(∀p∈ps,evO E tm p.2=evO E tm' p.2)->JZ E tm ps=JZ E tm' ps
 | [],_=>rfl
 | (i,x) :: ps,h=>by simp only[JZ,h (i,x) (by simp),QD (ps:=ps) λy hy=>h y (by simp[hy])]
theorem zAs{tm tm':List AV}{o:Option Operand}(h:∀x,o=some x->evO E tm x=evO E tm' x):QU E tm o=QU E tm' o:=by
 cases o with
 | none=>rfl
 | some x=>simp only[QU,h x rfl]
theorem effE_tm{call:FuncId->List DV->Option CR}{op:Op}{dst:Nat}{tm tm':List AV}(h:∀x∈op.operands,evO E tm x=evO E tm' x):jj E call op dst tm hp=jj E call op dst tm' hp:=by
 cases op <;> simp only[jj]
 case move x=>rw[h x (by simp[Aa])]
 case assign x=>rw[h x (by simp[Aa])]
 case pick c x y =>
  rw[h c (by simp[Aa])]
  congr 1;funext v;congr 1;funext b;cases b
  ·rw[h y (by simp[Aa])]
  ·rw[h x (by simp[Aa])]
 case box t x=>rw[h x (by simp[Aa])]
 case build t ps=>rw[QD λp hp=>h p.2 (by simp only[Aa];simp;exact⟨p.1,by simpa using hp⟩)]
 case buildSlice t n ps=>rw[QD λp hp=>h p.2 (by simp only[Aa];simp;exact⟨p.1,by simpa using hp⟩)]
 case load t x=>rw[h x (by simp[Aa])]
 case store t x y=>rw[h x (by simp[Aa]),h y (by simp[Aa])]
 case nilCheck x=>rw[h x (by simp[Aa])]
 case binOp op t x y c=>rw[h x (by simp[Aa]),h y (by simp[Aa])]
 case unOp op t x=>rw[h x (by simp[Aa])]
 case convert t1 t2 x=>rw[h x (by simp[Aa])]
 case makeFunc fn fs cs =>
  cases fn <;> simp only[jj]
  rw[zA9 (xs:=fs.toList) λx hx=>h x (by simp[Aa];exact .inl (by simpa using hx)),zA9 (xs:=cs.toList) λx hx=>h x (by simp[Aa];exact .inr (by simpa using hx))]
 case makeSlice t x y=>rw[h x (by simp[Aa]),h y (by simp[Aa])]
 case slice t x lo hi mx =>
  rw[h x (by simp[Aa]),zAs (o:=lo) λy hy=>h y (by simp[Aa,hy]),zAs (o:=hi) λy hy=>h y (by simp[Aa,hy]),zAs (o:=mx) λy hy=>h y (by simp[Aa,hy])]
 case fieldAddr t x i=>rw[h x (by simp[Aa])]
 case field t x i=>rw[h x (by simp[Aa])]
 case indexAddr t x i=>rw[h x (by simp[Aa]),h i (by simp[Aa])]
 case index t x i=>rw[h x (by simp[Aa]),h i (by simp[Aa])]
 case lookup t m k ok=>rw[h m (by simp[Aa]),h k (by simp[Aa])]
 case mapUpdate t m k x=>rw[h m (by simp[Aa]),h k (by simp[Aa]),h x (by simp[Aa])]
 case insert t m k x=>rw[h m (by simp[Aa]),h k (by simp[Aa]),h x (by simp[Aa])]
 case range t x=>rw[h x (by simp[Aa])]
 case next x b=>rw[h x (by simp[Aa])]
 case extract x i=>rw[h x (by simp[Aa])]
 case call c =>
  rw[zA9 (xs:=c.args.toList) λx hx=>h x (by simp only[Aa,AD];simp;exact .inr (by simpa using hx))]
  congr 1;funext args;cases hc:c.callee with
  | value f=>simp only[h f (by simp only[Aa,AD,hc];simp)]
  | invoke r m=>rfl
  | builtin b=>cases b <;> rfl
theorem jf{α β:Type}{o:Option α}{f g:α->Option β}(h:∀x,o=some x->f x=g x):bnd o f=bnd o g:=by
 cases o with
 | none=>rfl
 | some x=>exact h x rfl
theorem effE_hp{call:FuncId->List DV->Option CR}{op:Op}{dst:Nat}{tm:List AV}(h:HSim X hp hp')(ho:∀x∈op.operands,∀v,evO E tm x=some v->nrX X v)
  (hW:JD op=true->∀b,¬X b->slot hp b=slot hp' b)
  (hB:∀c x,op=.call c->c.callee=.builtin .append->c.args.toList.head? = some x->∀b off len sz,evO E tm x=some (.own b off len sz)->slot hp b=slot hp' b) :
  jj E call op dst tm hp=jj E call op dst tm hp':=by
 cases op <;> simp only[jj]
 case makeFunc fn fs cs=>cases fn <;> rfl
 case load t x=>exact jf λv hv=>loadE_sim h (ho x (by simp[Aa]) v hv)
 case store t x y =>
  refine jf λv hv=>jf λu hu=>?_
  have hn:=ho x (by simp[Aa]) v hv
  cases v with
  | ptr b sz e p=>simp only[Y5,hW rfl b hn.ptr]
  | _=>rfl
 case lookup t m k ok =>
  refine jf λv hv=>jf λu hu=>?_
  simp only[JX,zG5 h (ho m (by simp[Aa]) v hv)]
 case mapUpdate t m k x =>
  refine jf λv hv=>jf λu hu=>jf λy hy=>?_
  have hn:=ho m (by simp[Aa]) v hv
  cases v with
  | omp b =>
   cases u with
   | d k =>
    cases y with
    | d v=>simp only[jN,hW rfl b hn.omp]
    | _=>rfl
   | _=>rfl
  | _=>rfl
 case insert t m k x =>
  refine jf λv hv=>jf λu hu=>jf λy hy=>?_
  have hn:=ho m (by simp[Aa]) v hv
  cases v with
  | omp b =>
   cases u with
   | d k =>
    cases y with
    | d v=>simp only[jN,hW rfl b hn.omp]
    | _=>rfl
   | _=>rfl
  | _=>rfl
 case next x b =>
  refine jf λv hv=>?_
  have hn:=ho x (by simp[Aa]) v hv
  cases v with
  | it b=>simp only[zAW,hW rfl b hn.it]
  | _=>rfl
 case call c =>
  refine jf λargs hargs=>?_
  have ha:∀v∈args,nrX X v:=λv hm=>by obtain⟨z,hz,e⟩:=zCn hargs v hm;exact ho z (by simp only[Aa,AD];simp;exact .inr (by simpa using hz)) v e
  cases hc:c.callee with
  | invoke r m=>rfl
  | value f =>
   simp only;refine jf λvf hvf=>callE_sim h (ho f (by simp only[Aa,AD,hc];simp) vf hvf) ha
  | builtin b =>
   cases b <;> try rfl
   ·
    simp only;unfold Jb
    match args,ha,hargs with
    | [s,x],ha,hargs =>
     simp only;have hel:∀sz,jg hp sz x=jg hp' sz x:=λsz=>zDg h (ha x (by simp))
     have hbs:∀sz,YR hp sz s=YR hp' sz s:=λsz=>by
      cases s with
      | own b off len s' =>
       obtain⟨y,ys,hy⟩:∃y ys,c.args.toList=y :: ys:=by
        cases hl:c.args.toList with
        | nil=>rw[hl] at hargs;simp[evL] at hargs
        | cons y ys=>exact⟨y,ys,rfl⟩
       have hev:evO E tm y=some (.own b off len s'):=by
        rw[hy] at hargs;simp only[evL] at hargs;obtain⟨v,hv,hargs⟩:=zA hargs;obtain⟨vs,_,hargs⟩:=zA hargs;injection hargs with hargs
        injection hargs with e1 e2;rw[hv,e1]
       simp only[YR,hB c y rfl hc (by rw[hy];rfl) b off len s' hev]
      | d y=>cases y <;> rfl
      | _=>rfl
     simp only[hel,hbs]
    | [],_,_=>rfl
    | [_],_,_=>rfl
    | _ :: _ :: _ :: _,_,_=>rfl
   ·
    simp only;unfold zBB
    match args,ha with
    | [s,x],ha =>
     simp only;have hel:∀sz,jg hp sz x=jg hp' sz x:=λsz=>zDg h (ha x (by simp))
     cases s with
     | own b off len sz=>simp only[hel,hW (by simp[JD,hc]) b (ha (.own b off len sz) (by simp)).own]
     | _=>rfl
    | [],_=>rfl
    | [_],_=>rfl
    | _ :: _ :: _ :: _,_=>rfl
   ·
    simp only;unfold zCA
    match args,ha with
    | [x],ha =>
     have hm:=zG5 h (ha x (by simp))
     simp only;generalize c.argTypes.toList=ts
     match ts with
     | [t] =>
      refine jf λtd _=>?_
      cases td.k <;> cases x <;> first | rfl | (simp only[hm];done) | (rename_i y;cases y <;> first | rfl | (simp only[hm];done))
     | []=>rfl
     | _ :: _ :: _=>rfl
    | [],_=>rfl
    | _ :: _ :: _,_=>rfl
end
end Go.Am
namespace Go.Am
open Go.Proofs
open Go Go.RowKit
def fzO(o:Option OB):Option OB:=o.map λob=>{ ob with fz:=true }
def F1(ef:Eff)(b:Nat)(o:Option OB):Option OB:=if b∈ef.frz then fzO o else o
def F2(ef:Eff)(b:Nat)(o:Option OB):Option OB:=match ef.upd with | some (u,blk)=>if b=u then o.map λob=>{ ob with blk } else o | none=>o
def F3(ef:Eff)(b:Nat)(o:Option OB):Option OB:=if ef.kil=some b then none else o
def F4(ef:Eff)(s b:Nat)(o:Option OB):Option OB:=match ef.new with | some blk=>if b=s then some ⟨false,blk⟩ else o | none=>o
def FF(ef:Eff)(s b:Nat)(o:Option OB):Option OB:=F4 ef s b (F3 ef b (F2 ef b (F1 ef b o)))
theorem fzO_idem(o:Option OB):fzO (fzO o)=fzO o:=by cases o <;> rfl
theorem JW(hp:List (Option OB))(b:Nat):slot hp b=(hp[b]?).join:=by
 unfold slot;cases hp[b]? with
 | none=>rfl
 | some o=>cases o <;> rfl
theorem zIu(hp:List (Option OB))(c b:Nat):(freeze1 hp c)[b]? = (hp[b]?).map λo=>if b=c then fzO o else o:=by
 unfold freeze1;cases hs:slot hp c with
 | none =>
  simp only;cases hb:hp[b]? with
  | none=>rfl
  | some o =>
   simp only[AH];by_cases e:b=c
   ·subst e;rw[JW,hb] at hs;simp only[Ar] at hs;subst hs;simp[fzO]
   ·simp[e]
 | some ob =>
  simp only;by_cases e:b=c
  ·subst e;rw[JW] at hs;cases hb:hp[b]? with
   | none=>rw[hb] at hs;simp at hs
   | some o =>
    rw[hb] at hs;simp only[Ar] at hs;subst hs;have hlt:b<hp.length:=(Ac.1 hb).1;rw[At hlt];simp[fzO]
  ·rw[Ao (AG e)];cases hp[b]? <;> simp[e]
theorem zDd:∀(ss:List Nat) (hp:List (Option OB)) (b:Nat),(freezeL hp ss)[b]? = (hp[b]?).map λo=>if b∈ss then fzO o else o
 | [],hp,b=>by simp[freezeL]
 | c :: ss,hp,b=>by
  simp only[freezeL];rw[zDd ss,zIu,AK];congr 1;funext o;simp only[Bp];by_cases e:b=c
  ·subst e;simp only[if_true,Au,true_or];by_cases h:b∈ss
   ·simp[h,fzO_idem]
   ·simp[h]
  ·simp[e]
theorem YD(ef:Eff)(dst:Option Tmp)(s:Nat)(st:St)(b:Nat):(zq ef dst s st).hp[b]? = (st.hp[b]?).map (FF ef s b):=by
 have h2:∀(hp:List (Option OB)),(zHo hp ef.upd)[b]? = (hp[b]?).map (F2 ef b):=by
  intro hp;unfold zHo F2;cases hu:ef.upd with
  | none=>simp
  | some p =>
   obtain⟨u,blk⟩:=p;simp only;cases hs:slot hp u with
   | none =>
    simp only;cases hb:hp[b]? with
    | none=>rfl
    | some o =>
     by_cases e:b=u
     ·subst e;rw[JW,hb] at hs;simp only[Ar] at hs;subst hs;simp
     ·simp[e]
   | some ob =>
    simp only;by_cases e:b=u
    ·subst e;rw[JW] at hs;cases hb:hp[b]? with
     | none=>rw[hb] at hs;simp at hs
     | some o =>
      rw[hb] at hs;simp only[Ar] at hs;subst hs;have hlt:b<hp.length:=(Ac.1 hb).1;rw[At hlt];simp
    ·rw[Ao (AG e)];cases hp[b]? <;> simp[e]
 have h3:∀(hp:List (Option OB)),(zEV hp ef.kil)[b]? = (hp[b]?).map (F3 ef b):=by
  intro hp;unfold zEV F3;cases hk:ef.kil with
  | none=>simp
  | some k =>
   simp only;by_cases e:b=k
   ·subst e;cases hb:hp[b]? with
    | none =>
     have:hp.length<=b:=AR.1 hb;rw[AT this,hb];rfl
    | some o =>
     have hlt:b<hp.length:=(Ac.1 hb).1;rw[At hlt];simp
   ·rw[Ao (AG e)];cases hp[b]? <;> simp[AG e]
 have h4:∀(hp:List (Option OB)),(match ef.new with | some k=>hp.set s (some ⟨false,k⟩) | none=>hp)[b]? = (hp[b]?).map (F4 ef s b):=by
  intro hp;unfold F4;cases hn:ef.new with
  | none=>simp
  | some k =>
   simp only;by_cases e:b=s
   ·subst e;cases hb:hp[b]? with
    | none =>
     have:hp.length<=b:=AR.1 hb;rw[AT this,hb];rfl
    | some o =>
     have hlt:b<hp.length:=(Ac.1 hb).1;rw[At hlt];simp
   ·rw[Ao (AG e)];cases hp[b]? <;> simp[e]
 show(match ef.new with | some k=>(zEV (zHo (freezeL st.hp ef.frz) ef.upd) ef.kil).set s (some ⟨false,k⟩) | none=>zEV (zHo (freezeL st.hp ef.frz) ef.upd) ef.kil)[b]? = _
 rw[h4,h3,h2,zDd,AK,AK,AK];rfl
theorem Yt(ef:Eff)(dst:Option Tmp)(s:Nat)(st:St)(b:Nat):slot (zq ef dst s st).hp b=match st.hp[b]? with | some o=>FF ef s b o | none=>none:=by rw[JW,YD];cases st.hp[b]? <;> rfl
def Eff.touch(ef:Eff)(s b:Nat):Prop:=b∈ef.frz\/(∃k,ef.upd=some (b,k))\/ef.kil=some b\/(ef.new.isSome=true/\b=s)
def Eff.marks(ef:Eff)(s b:Nat):Prop:=b∈ef.frz/\(∀k,ef.upd≠some (b,k))/\ef.kil≠some b/\(ef.new.isSome=true->b≠s)
theorem zDv{ef:Eff}{s b:Nat}(h:¬ef.touch s b)(o:Option OB):FF ef s b o=o:=by
 simp only[Eff.touch,not_or,not_and] at h;obtain⟨h1,h2,h3,h4⟩:=h;unfold FF F1 F2 F3 F4;rw[if_neg h1];have e2:(match ef.upd with | some (u,blk)=>if b=u then o.map (λob=>{ ob with blk }) else o | none=>o)=o:=by
  cases hu:ef.upd with
  | none=>rfl
  | some p =>
   obtain⟨u,k⟩:=p;simp only;rw[if_neg];rintro rfl;exact h2 ⟨k,hu⟩
 rw[e2,if_neg h3];cases hn:ef.new with
 | none=>rfl
 | some k =>
  simp only;rw[if_neg (h4 (by simp[hn]))]
theorem zCg{ef:Eff}{s b:Nat}(h:ef.marks s b)(o:Option OB):FF ef s b o=fzO o:=by
 obtain⟨h1,h2,h3,h4⟩:=h;unfold FF F1 F2 F3 F4;rw[if_pos h1];have e2:∀o:Option OB,(match ef.upd with | some (u,blk)=>if b=u then o.map (λob=>{ ob with blk }) else o | none=>o)=o:=by
  intro o;cases hu:ef.upd with
  | none=>rfl
  | some p =>
   obtain⟨u,k⟩:=p;simp only;rw[if_neg];rintro rfl;exact h2 k hu
 rw[e2,if_neg h3];cases hn:ef.new with
 | none=>rfl
 | some k =>
  simp only;rw[if_neg (h4 (by simp[hn]))]
theorem zI3{e1 e2:Eff}{d1 d2:Option Tmp}{s1 s2:Nat}{st:St}(hd:∀d,d1=some d->d2≠some d)(h:∀b,e1.touch s1 b->e2.touch s2 b->e1.marks s1 b/\e2.marks s2 b) :
  zq e2 d2 s2 (zq e1 d1 s1 st)=zq e1 d1 s1 (zq e2 d2 s2 st):=by
 have ht:(zq e2 d2 s2 (zq e1 d1 s1 st)).tm=(zq e1 d1 s1 (zq e2 d2 s2 st)).tm:=by
  show j5 (j5 st.tm d1 e1.v) d2 e2.v=j5 (j5 st.tm d2 e2.v) d1 e1.v;cases d1 with
  | none=>rfl
  | some x =>
   cases d2 with
   | none=>rfl
   | some y =>
    have:x≠y:=λe=>hd x rfl (by rw[e])
    exact List.set_comm _ _ this
 have hh:(zq e2 d2 s2 (zq e1 d1 s1 st)).hp=(zq e1 d1 s1 (zq e2 d2 s2 st)).hp:=by
  apply Bo;intro b;rw[YD,YD,YD,YD,AK,AK];congr 1;funext o;simp only[Bp];by_cases a1:e1.touch s1 b
  ·by_cases a2:e2.touch s2 b
   ·obtain⟨m1,m2⟩:=h b a1 a2;rw[zCg m1,zCg m2,zCg m2,zCg m1]
   ·rw[zDv a2,zDv a2]
  ·rw[zDv a1,zDv a1]
 have key:∀x y:St,x.tm=y.tm->x.hp=y.hp->x=y:=λx y h1 h2=>by cases x;cases y;simp_all
 exact key _ _ ht hh
def Pur(ef:Eff):Prop:=∃v,ef={ v }
section
variable{E:Env}{hp:List (Option OB)}
theorem jO{v:AV}{ef:Eff}(h:zk v=some ef):Pur ef:=⟨v,by simp[zk] at h;exact h.symm⟩
theorem pur_loadE{t:TypeId}{a:AV}{ef:Eff}(h:Yg E t hp a=some ef):Pur ef:=by
 unfold Yg at h;obtain⟨td,_,h⟩:=zA h;split at h
 ·obtain⟨_,h⟩:=zG h;exact jO h
 ·obtain⟨ob,hob,h⟩:=zA h;obtain⟨v,hv,h⟩:=zA h;obtain⟨x,hx,h⟩:=zA h;obtain⟨_,h⟩:=zG h;exact jO h
 ·simp at h
theorem pur_buildE{t:TypeId}{ps:List (Nat×AV)}{ef:Eff}(h:zAZ E t ps=some ef):Pur ef:=by
 have key:∀{tag:Nat} {z:DV},Qt E tag z ps=some ef->Pur ef:=by
  intro tag z h;unfold Qt at h;split at h
  ·split at h
   ·obtain⟨fs,hf,h⟩:=zA h;exact jO h
   ·simp at h
  ·simp at h
 unfold zAZ at h;obtain⟨td,_,h⟩:=zA h;split at h
 ·exact key h
 ·exact key h
 ·simp at h
theorem pur_sliceE{t:TypeId}{x:AV}{lo hi mx:Option AV}{ef:Eff}(h:Yc E t x lo hi mx=some ef):Pur ef:=by
 unfold Yc at h;obtain⟨td,_,h⟩:=zA h;obtain⟨l,_,h⟩:=zA h;split at h
 ·obtain⟨_,_,h⟩:=zA h;obtain⟨_,h⟩:=zG h;exact jO h
 ·obtain⟨_,_,h⟩:=zA h;obtain⟨_,_,h⟩:=zA h;obtain⟨_,h⟩:=zG h;split at h
  ·exact jO h
  ·obtain⟨_,_,h⟩:=zA h;obtain⟨_,h⟩:=zG h;exact jO h
 ·obtain⟨_,_,h⟩:=zA h;obtain⟨_,_,h⟩:=zA h;obtain⟨_,h⟩:=zG h;split at h
  ·exact jO h
  ·obtain⟨_,_,h⟩:=zA h;obtain⟨_,h⟩:=zG h;exact jO h
 ·obtain⟨_,_,h⟩:=zA h;obtain⟨_,_,h⟩:=zA h;obtain⟨_,h⟩:=zG h;exact jO h
 ·simp at h
theorem zD2{t:TypeId}{x:AV}{i:Nat}{ef:Eff}(h:jy E t x i=some ef):Pur ef:=by
 unfold jy at h;obtain⟨td,_,h⟩:=zA h;split at h
 ·split at h
  ·obtain⟨_,h⟩:=zG h;exact jO h
  ·split at h
   ·split at h
    ·exact jO h
    ·simp at h
   ·simp at h
  ·simp at h
 ·simp at h
theorem pur_fieldE{t:TypeId}{x:AV}{i:Nat}{ef:Eff}(h:zBT E t x i=some ef):Pur ef:=by
 unfold zBT at h;obtain⟨td,_,h⟩:=zA h;split at h
 ·obtain⟨_,_,h⟩:=zA h;obtain⟨_,_,h⟩:=zA h;obtain⟨v,hv,h⟩:=zA h;obtain⟨_,h⟩:=zG h;exact jO h
 ·simp at h
theorem pur_indexE{t:TypeId}{x ix:AV}{ef:Eff}(h:qJ E t x ix=some ef):Pur ef:=by
 unfold qJ at h;obtain⟨td,_,h⟩:=zA h;obtain⟨i,_,h⟩:=zA h;obtain⟨_,h⟩:=zG h;split at h
 ·obtain⟨_,_,h⟩:=zA h;obtain⟨v,hv,h⟩:=zA h;obtain⟨_,h⟩:=zG h;exact jO h
 ·split at h
  ·split at h
   ·exact jO h
   ·simp at h
  ·simp at h
 ·simp at h
theorem zD1{t:TypeId}{x ix:AV}{ef:Eff}(h:jb E t x ix=some ef):Pur ef:=by
 unfold jb at h;obtain⟨td,_,h⟩:=zA h;obtain⟨i,_,h⟩:=zA h;split at h
 ·obtain⟨_,_,h⟩:=zA h;split at h
  ·obtain⟨_,h⟩:=zG h;split at h
   ·exact jO h
   ·simp at h
  ·obtain⟨_,h⟩:=zG h;exact jO h
  ·simp at h
 ·split at h
  ·obtain⟨_,h⟩:=zG h;exact jO h
  ·split at h
   ·obtain⟨_,h⟩:=zG h;split at h
    ·exact jO h
    ·simp at h
   ·simp at h
  ·simp at h
 ·simp at h
theorem zIo{t:TypeId}{m k:AV}{ok:Bool}{ef:Eff}(h:JX E t hp m k ok=some ef):Pur ef:=by
 unfold JX at h;obtain⟨td,_,h⟩:=zA h;split at h
 ·obtain⟨_,_,h⟩:=zA h;obtain⟨_,_,h⟩:=zA h;split at h
  ·obtain⟨_,h⟩:=zG h;obtain⟨_,_,h⟩:=zA h;obtain⟨r,_,h⟩:=zA h;split at h <;> (exact jO h)
  ·simp at h
 ·simp at h
theorem pur_lenE{ts:List TypeId}{args:List AV}{ef:Eff}(h:zCA E ts hp args=some ef):Pur ef:=by
 unfold zCA at h;split at h
 case h_2=>simp at h
 split at h
 case h_2=>simp at h
 obtain⟨td,_,h⟩:=zA h;split at h
 all_goals first
  | (exact jO h)
  | (obtain⟨_,_,h⟩:=zA h;exact jO h)
  | (simp at h)
theorem pur_maxE{args:List AV}{ef:Eff}(h:maxE args=some ef):Pur ef:=by
 unfold maxE at h;split at h
 ·obtain⟨_,_,h⟩:=zA h;exact jO h
 ·simp at h
theorem pur_minE{args:List AV}{ef:Eff}(h:minE args=some ef):Pur ef:=by
 unfold minE at h;split at h
 ·obtain⟨_,_,h⟩:=zA h;exact jO h
 ·simp at h
theorem zHb{i:Nat}{x:AV}{ef:Eff}(h:Qp i x=some ef):Pur ef:=by
 unfold Qp at h;split at h
 ·split at h
  ·exact jO h
  ·simp at h
 ·simp at h
theorem zGH{x:AV}{ef:Eff}(h:Yo x=some ef):Pur ef:=by
 unfold Yo at h;split at h <;> try (simp at h;done)
 exact jO h
structure Form(hp:List (Option OB))(op:Op)(ef:Eff):Prop where
 upd:JD op=false->ef.upd=none
 kil:(∀c,op=.call c->c.callee≠.builtin .append)->ef.kil=none
 frz:(∀c,op=.call c->c.callee≠.builtin .append/\c.callee≠.builtin .copy/\∀f,c.callee≠.value f)->ef.frz=[]
 new:ef.new.isSome=true->owns op=true
 liveU:∀b k,ef.upd=some (b,k)->∃ob,slot hp b=some ob
 liveK:∀b,ef.kil=some b->∃ob,slot hp b=some ob
theorem Qq{call:FuncId->List DV->Option CR}{op:Op}{dst:Nat}{tm:List AV}{ef:Eff}(h:jj E call op dst tm hp=some ef):Form hp op ef:=by
 have pur:Pur ef->Form hp op ef:=λhp'=>by obtain⟨v,rfl⟩:=hp';exact⟨λ_=>rfl,λ_=>rfl,λ_=>rfl,by simp,by simp,by simp⟩
 cases op <;> simp only[jj] at h <;> try (simp at h;done)
 case move x=>obtain⟨v,hv,h⟩:=zA h;exact pur (jO h)
 case assign x=>obtain⟨v,hv,h⟩:=zA h;exact pur (jO h)
 case pick c x y =>
  obtain⟨v,_,h⟩:=zA h;obtain⟨b,_,h⟩:=zA h;obtain⟨u,hu,h⟩:=zA h;exact pur (jO h)
 case alloc t =>
  obtain⟨td,_,h⟩:=zA h;obtain⟨_,h⟩:=zG h;injection h with h;subst h
  exact⟨λ_=>rfl,λ_=>rfl,λ_=>rfl,λ_=>rfl,by simp,by simp⟩
 case box t x =>
  obtain⟨v,hv,h⟩:=zA h;obtain⟨td,_,h⟩:=zA h;obtain⟨_,h⟩:=zG h;injection h with h;subst h
  exact⟨λ_=>rfl,λ_=>rfl,λ_=>rfl,λ_=>rfl,by simp,by simp⟩
 case build t ps=>obtain⟨vs,hv,h⟩:=zA h;exact pur (pur_buildE h)
 case buildSlice t n ps =>
  obtain⟨vs,hv,h⟩:=zA h;unfold JM at h;obtain⟨td,_,h⟩:=zA h;split at h
  case h_2=>simp at h
  obtain⟨ed,_,h⟩:=zA h;obtain⟨_,h⟩:=zG h;obtain⟨vs,hv,h⟩:=zA h;split at h
  ·exact pur (jO h)
  ·injection h with h;subst h
   exact⟨λ_=>rfl,λ_=>rfl,λ_=>rfl,λ_=>rfl,by simp,by simp⟩
 case load t x=>obtain⟨v,hv,h⟩:=zA h;exact pur (pur_loadE h)
 case store t x y =>
  obtain⟨v,hv,h⟩:=zA h;obtain⟨u,hu,h⟩:=zA h;unfold Y5 at h;obtain⟨td,_,h⟩:=zA h;split at h
  ·obtain⟨ob,hob,h⟩:=zA h;obtain⟨_,h⟩:=zG h;obtain⟨_,h⟩:=zG h;obtain⟨v,hv,h⟩:=zA h;obtain⟨y,hy,h⟩:=zA h;obtain⟨_,h⟩:=zG h;obtain⟨blk,hb,h⟩:=zA h;injection h with h;subst h
   refine⟨by simp[JD],λ_=>rfl,λ_=>rfl,by simp,λb' k e=>?_,by simp⟩
   injection e with e;injection e with e1 e2;subst e1
   exact⟨ob,hob⟩
  ·simp at h
 case nilCheck x=>obtain⟨v,hv,h⟩:=zA h;exact pur (zGH h)
 case binOp op t x y c =>
  obtain⟨v,hv,h⟩:=zA h;obtain⟨u,hu,h⟩:=zA h;split at h
  ·obtain⟨_,h⟩:=zG h;obtain⟨_,_,h⟩:=zA h;exact pur (jO h)
  ·simp at h
 case unOp op t x =>
  obtain⟨v,hv,h⟩:=zA h;split at h
  ·obtain⟨_,_,h⟩:=zA h;exact pur (jO h)
  ·simp at h
 case convert t1 t2 x =>
  obtain⟨v,hv,h⟩:=zA h;split at h
  ·obtain⟨_,_,h⟩:=zA h;exact pur (jO h)
  ·simp at h
 case makeFunc fn fs cs =>
  cases fn <;> try (simp[jj] at h;done)
  simp only[jj] at h;obtain⟨x,hx,h⟩:=zA h;obtain⟨y,hy,h⟩:=zA h;obtain⟨_,h⟩:=zG h;exact pur (jO h)
 case makeMap t r =>
  cases r with
  | some r=>simp at h
  | none =>
   simp only at h;obtain⟨td,_,h⟩:=zA h;split at h
   ·injection h with h;subst h
    exact⟨λ_=>rfl,λ_=>rfl,λ_=>rfl,λ_=>rfl,by simp,by simp⟩
   ·simp at h
 case makeSlice t x y =>
  obtain⟨v,hv,h⟩:=zA h;obtain⟨u,hu,h⟩:=zA h;unfold Jq at h;obtain⟨td,_,h⟩:=zA h;split at h
  ·obtain⟨_,_,h⟩:=zA h;obtain⟨_,_,h⟩:=zA h;obtain⟨_,_,h⟩:=zA h;obtain⟨_,h⟩:=zG h;injection h with h;subst h
   exact⟨λ_=>rfl,λ_=>rfl,λ_=>rfl,λ_=>rfl,by simp,by simp⟩
  ·simp at h
 case slice t x lo hi mx =>
  obtain⟨v,hv,h⟩:=zA h;obtain⟨_,_,h⟩:=zA h;obtain⟨_,_,h⟩:=zA h;obtain⟨_,_,h⟩:=zA h;exact pur (pur_sliceE h)
 case fieldAddr t x i=>obtain⟨v,hv,h⟩:=zA h;exact pur (zD2 h)
 case field t x i=>obtain⟨v,hv,h⟩:=zA h;exact pur (pur_fieldE h)
 case indexAddr t x i =>
  obtain⟨v,hv,h⟩:=zA h;obtain⟨_,_,h⟩:=zA h;exact pur (zD1 h)
 case index t x i =>
  obtain⟨v,hv,h⟩:=zA h;obtain⟨_,_,h⟩:=zA h;exact pur (pur_indexE h)
 case lookup t m k ok =>
  obtain⟨_,_,h⟩:=zA h;obtain⟨_,_,h⟩:=zA h;exact pur (zIo h)
 case mapUpdate t m k x =>
  obtain⟨v,hv,h⟩:=zA h;obtain⟨_,_,h⟩:=zA h;obtain⟨_,_,h⟩:=zA h;unfold jN at h;obtain⟨td,_,h⟩:=zA h;split at h
  ·obtain⟨_,_,h⟩:=zA h;obtain⟨_,_,h⟩:=zA h;split at h
   ·obtain⟨_,h⟩:=zG h;obtain⟨_,h⟩:=zG h;split at h
    ·rename_i hsl;obtain⟨_,_,h⟩:=zA h;injection h with h;subst h
     refine⟨by simp[JD],λ_=>rfl,λ_=>rfl,by simp,λb' k e=>?_,by simp⟩
     injection e with e;injection e with e1 e2;subst e1
     exact⟨_,hsl⟩
    ·simp at h
   ·simp at h
  ·simp at h
 case insert t m k x =>
  obtain⟨v,hv,h⟩:=zA h;obtain⟨_,_,h⟩:=zA h;obtain⟨_,_,h⟩:=zA h;unfold jN at h;obtain⟨td,_,h⟩:=zA h;split at h
  ·obtain⟨_,_,h⟩:=zA h;obtain⟨_,_,h⟩:=zA h;split at h
   ·obtain⟨_,h⟩:=zG h;obtain⟨_,h⟩:=zG h;split at h
    ·rename_i hsl;obtain⟨_,_,h⟩:=zA h;injection h with h;subst h
     refine⟨by simp[JD],λ_=>rfl,λ_=>rfl,by simp,λb' k e=>?_,by simp⟩
     injection e with e;injection e with e1 e2;subst e1
     exact⟨_,hsl⟩
    ·simp at h
   ·simp at h
  ·simp at h
 case range t x =>
  obtain⟨td,_,h⟩:=zA h;split at h
  ·obtain⟨v,hv,h⟩:=zA h;unfold zGG at h;split at h
   ·injection h with h;subst h
    exact⟨λ_=>rfl,λ_=>rfl,λ_=>rfl,λ_=>rfl,by simp,by simp⟩
   ·simp at h
  ·simp at h
 case next x b =>
  obtain⟨v,hv,h⟩:=zA h;unfold zAW at h;split at h
  ·obtain⟨_,h⟩:=zG h;split at h
   ·rename_i hsl;split at h
    ·injection h with h;subst h
     refine⟨by simp[JD],λ_=>rfl,λ_=>rfl,by simp,λb' k e=>?_,by simp⟩
     injection e with e;injection e with e1 e2;subst e1
     exact⟨_,hsl⟩
    ·exact pur (jO h)
   ·simp at h
  ·simp at h
 case extract x i=>obtain⟨v,hv,h⟩:=zA h;exact pur (zHb h)
 case call c =>
  obtain⟨vs,hv,h⟩:=zA h;cases hc:c.callee with
  | invoke r m=>rw[hc] at h;simp at h
  | value f =>
   rw[hc] at h;simp only at h;obtain⟨vf,hvf,h⟩:=zA h;unfold qs at h;obtain⟨c',hc',h⟩:=zA h;obtain⟨ds,_,h⟩:=zA h;obtain⟨r,_,h⟩:=zA h;injection h with h;subst h
   refine⟨λ_=>by cases r <;> rfl,λ_=>by cases r <;> rfl,λhh=>absurd hc ((hh c rfl).2.2 f),λ_=>by simp[owns,hc],λb k e=>by cases r <;> simp[deliver] at e,λb e=>by cases r <;> simp[deliver] at e⟩
  | builtin b =>
   rw[hc] at h;cases b <;> try (simp at h;done)
   ·
    simp only at h;unfold Jb at h;split at h
    case h_2=>simp at h
    rename_i x y;split at h
    case h_2=>simp at h
    obtain⟨_,h⟩:=zG h;obtain⟨td,_,h⟩:=zA h;split at h
    case h_2=>simp at h
    obtain⟨ed,_,h⟩:=zA h;obtain⟨bs,hbs,h⟩:=zA h;obtain⟨el,hel,h⟩:=zA h;obtain⟨_,h⟩:=zG h;split at h
    ·exact pur (jO h)
    ·injection h with h;subst h
     refine⟨λ_=>rfl,λhh=>absurd hc (hh c rfl),λhh=>absurd hc (hh c rfl).1,λ_=>by simp[owns,hc],by simp,λb e=>?_⟩
     unfold YR at hbs;split at hbs
     ·injection hbs with hbs;subst hbs;simp at e
     ·split at hbs
      ·split at hbs
       ·rename_i hsl;split at hbs
        ·injection hbs with hbs;subst hbs
         simp only[Ae] at e;subst e;exact⟨_,hsl⟩
        ·simp at hbs
       ·simp at hbs
      ·simp at hbs
     ·simp at hbs
   ·
    simp only at h;unfold zBB at h;split at h
    case h_2=>simp at h
    split at h
    case h_2=>simp at h
    obtain⟨td,_,h⟩:=zA h;split at h
    case h_2=>simp at h
    obtain⟨ed,_,h⟩:=zA h;split at h
    case h_2=>simp at h
    obtain⟨_,h⟩:=zG h;split at h
    case h_2=>simp at h
    rename_i hsl;obtain⟨_,h⟩:=zG h;obtain⟨el,hel,h⟩:=zA h;injection h with h;subst h
    refine⟨by simp[JD,hc],λ_=>rfl,λhh=>absurd hc (hh c rfl).2.1,by simp,λb' k e=>?_,by simp⟩
    injection e with e;injection e with e1 e2;subst e1
    exact⟨_,hsl⟩
   ·exact pur (pur_lenE h)
   ·exact pur (pur_maxE h)
   ·exact pur (pur_minE h)
theorem zEr{call:FuncId->List DV->Option CR}{c:Call}{dst:Nat}{tm:List AV}{ef:Eff}(h:jj E call (.call c) dst tm hp=some ef)(hc:c.callee=.builtin .append) :
  (∀x,c.args.toList.head? = some x->∀b off len sz,evO E tm x=some (.own b off len sz)->ef.kil=some b) /\
  (∀b,ef.kil=some b->∃x len sz,c.args.toList.head? = some x/\evO E tm x=some (.own b 0 len sz)):=by
 simp only[jj] at h;obtain⟨vs,hv,h⟩:=zA h;rw[hc] at h;simp only at h;unfold Jb at h;split at h
 case h_2=>simp at h
 rename_i x y;split at h
 case h_2=>simp at h
 obtain⟨_,h⟩:=zG h;obtain⟨td,_,h⟩:=zA h;split at h
 case h_2=>simp at h
 obtain⟨ed,_,h⟩:=zA h;obtain⟨bs,hbs,h⟩:=zA h;obtain⟨el,hel,h⟩:=zA h;obtain⟨_,h⟩:=zG h;obtain⟨z,zs,hz,hev⟩:∃z zs,c.args.toList=z :: zs/\evO E tm z=some x:=by
  cases hl:c.args.toList with
  | nil=>rw[hl] at hv;simp[evL] at hv
  | cons z zs =>
   rw[hl] at hv;simp only[evL] at hv;obtain⟨v,hv1,hv⟩:=zA hv;obtain⟨vs,_,hv⟩:=zA hv;injection hv with hv
   injection hv with e1 e2;exact⟨z,zs,rfl,by rw[hv1,e1]⟩
 have hb:(∀b off len sz,x=.own b off len sz->bs.2=some b)/\∀b,bs.2=some b->∃len sz,x=.own b 0 len sz:=by
  unfold YR at hbs;split at hbs
  ·injection hbs with hbs;subst hbs;simp
  ·split at hbs
   ·rename_i hcond;split at hbs
    ·split at hbs
     ·injection hbs with hbs;subst hbs
      refine⟨λb off len sz e=>by injection e with e1;rw[e1],λb e=>?_⟩
      simp only[Ae] at e;subst e;rw[hcond.2];exact⟨_,_,rfl⟩
     ·simp at hbs
    ·simp at hbs
   ·simp at hbs
  ·simp at hbs
 split at h
 ·rename_i e1 _;refine⟨λw hw b off len sz hwv=>?_,λb e=>?_⟩
  ·rw[hz] at hw;simp only[Bw,Ae] at hw;subst hw;rw[hev] at hwv;injection hwv with hwv
   rw[hb.1 b off len sz hwv] at e1;simp at e1
  ·simp[zk] at h;subst h;simp at e
 ·injection h with h;subst h
  refine⟨λw hw b off len sz hwv=>?_,λb e=>?_⟩
  ·rw[hz] at hw;simp only[Bw,Ae] at hw;subst hw;rw[hev] at hwv;injection hwv with hwv
   exact hb.1 b off len sz hwv
  ·obtain⟨len,sz,e⟩:=hb.2 b e;exact⟨z,len,sz,by rw[hz];rfl,by rw[hev,e]⟩
theorem effE_quiet{ops:List Oper}{call:FuncId->List DV->Option CR}{op:Op}(hq:(cls ops op).heeds=false)(dst:Nat)(tm:List AV)(hp hp':List (Option OB)):jj E call op dst tm hp=jj E call op dst tm hp':=by
 cases op <;> simp only[jj]
 case makeFunc fn fs cs=>cases fn <;> simp only[jj]
 case call c =>
  cases hc:c.callee with
  | value f=>simp[cls,hc,Cls.heeds] at hq
  | invoke r m=>rfl
  | builtin b =>
   cases b <;> try (simp only;done)
   ·simp only[cls,hc] at hq;split at hq <;> (try (simp[Cls.heeds] at hq;done))
    split at hq <;> (try (simp[Cls.heeds] at hq;done))
    split at hq <;> simp[Cls.heeds] at hq
   ·simp[cls,hc,Cls.heeds] at hq
   ·simp[cls,hc,Cls.heeds] at hq
 all_goals (simp[cls,Cls.heeds] at hq)
theorem zJm{call:FuncId->List DV->Option CR}{op:Op}(ho:owns op=false)(d d':Nat)(tm:List AV):jj E call op d tm hp=jj E call op d' tm hp:=by
 cases op <;> simp only[jj]
 case makeFunc fn fs cs=>cases fn <;> simp only[jj]
 case call c =>
  cases hc:c.callee with
  | value f=>simp[owns,hc] at ho
  | invoke r m=>rfl
  | builtin b =>
   cases b <;> try (simp only;done)
   simp[owns,hc] at ho
 all_goals (simp[owns] at ho)
end
end Go.Am
namespace Go.Am
open Go.Proofs
open Go Go.RowKit
def freeRef(s:Nat)(st:St):Prop:=slot st.hp s=none/\(∀(t:Nat) (v:AV),st.tm[t]? = some v->zl s v=true)/\∀b ob,slot st.hp b=some ob->zn s ob.blk=true
def onlyAt(s:Nat)(st:St):Prop:=(∀(t:Nat) (v:AV),t≠s->st.tm[t]? = some v->zl s v=true)/\∀b ob,slot st.hp b=some ob->zn s ob.blk=true
def zGT(loud:Bool)(may:Option Nat)(o:Oper)(ef:Eff):Option Eff :=
 zw (ef.ok && (loud || (ef.upd.isNone && (ef.kil.isNone || ef.kil == may)))) (match ef.new with
  | none=>some ef
  | some b=>zw (o.dst.isSome && zn (zg o) b) (some ef))
def zBY(E:Env)(call:FuncId->List DV->Option CR)(ops:List Oper)(o:Oper)(st:St):Option Eff :=
 bnd (jv ops o st.tm) λg=>match g with
  | false=>some { v:=.d (.tup []) }
  | true=>bnd (jj E call o.op (zg o) st.tm st.hp) (zGT (cls ops o.op).loud (qn ops o.op) o)
def qP(E:Env)(call:FuncId->List DV->Option CR)(ops:List Oper)(o:Oper)(st:St):Option St :=
 bnd (zBY E call ops o st) λef=>zw (ef.new.isNone || (slot st.hp (zg o)).isNone) (some (zq ef o.dst (zg o) st))
section
variable{E:Env}{call:FuncId->List DV->Option CR}{ops:List Oper}
theorem Yx{loud:Bool}{may:Option Nat}{o:Oper}{ef e:Eff}(h:zGT loud may o ef=some e):e=ef/\ef.ok=true/\(loud=true\/(ef.upd=none/\(ef.kil=none\/ef.kil=may)))/\∀b,ef.new=some b->o.dst.isSome=true/\zn (zg o) b=true:=by
 unfold zGT at h;obtain⟨h1,h⟩:=zG h;simp only[Ab,AI,Option.isNone_iff_eq_none,beq_iff_eq] at h1;cases hn:ef.new with
 | none =>
  rw[hn] at h;injection h with h
  exact⟨h.symm,h1.1,h1.2,by simp⟩
 | some b =>
  rw[hn] at h;obtain⟨h2,h⟩:=zG h;injection h with h
  simp only[Ab] at h2;exact⟨h.symm,h1.1,h1.2,λb' e=>by injection e with e;subst e;exact h2⟩
theorem YF{o:Oper}{st:St}{ef:Eff}(h:zBY E call ops o st=some ef):(jv ops o st.tm=some false/\ef={ v:=.d (.tup []) })\/(jv ops o st.tm=some true/\jj E call o.op (zg o) st.tm st.hp=some ef/\zGT (cls ops o.op).loud (qn ops o.op) o ef=some ef):=by
 unfold zBY at h;obtain⟨g,hg,h⟩:=zA h;cases g with
 | false=>injection h with h;exact .inl ⟨hg,h.symm⟩
 | true =>
  obtain⟨e,he,h⟩:=zA h;have:=(Yx h).1;subst this;exact .inr ⟨hg,he,h⟩
theorem Yq{o:Oper}{st:St}{ef:Eff}(h:zBY E call ops o st=some ef):Form st.hp o.op ef/\ef.ok=true/\((cls ops o.op).loud=true\/(ef.upd=none/\(ef.kil=none\/ef.kil=qn ops o.op)))/\∀b,ef.new=some b->o.dst.isSome=true/\zn (zg o) b=true:=by
 rcases YF h with ⟨_,rfl⟩ | ⟨_,he,hc⟩
 ·exact⟨⟨λ_=>rfl,λ_=>rfl,λ_=>rfl,by simp,by simp,by simp⟩,rfl,.inr ⟨rfl,.inl rfl⟩,by simp⟩
 ·obtain⟨_,h1,h2,h3⟩:=Yx hc;exact⟨Qq he,h1,h2,h3⟩
theorem zF0{o:Oper}{t:Tmp}(h:By t∈o.op.operands):t∈looks ops o:=by unfold looks;refine AA _ (A0.2 ⟨.tmp t,by simpa using h,rfl⟩)
theorem evO_put{o:Oper}{tm:List AV}{dst:Option Tmp}{v:AV}(h:∀d,dst=some d->d ∉ looks ops o):∀x∈o.op.operands,evO E tm x=evO E (j5 tm dst v) x:=by
 intro x hx;cases dst with
 | none=>rfl
 | some d =>
  cases x with
  | tmp t =>
   have hne:d≠t:=by rintro rfl;exact h d rfl (zF0 hx)
   simp only[evO,j5];rw[Ao hne]
  | _=>rfl
theorem zEb{o:Oper}{tm:List AV}{dst:Option Tmp}{v:AV}(h:∀d,dst=some d->d ∉ looks ops o):jv ops o tm=jv ops o (j5 tm dst v):=by
 cases dst with
 | none=>rfl
 | some d =>
  unfold jv;cases hg:o.guard with
  | none=>rfl
  | some p =>
   obtain⟨j,want⟩:=p;simp only;cases hj:ops[j]? with
   | none=>rfl
   | some g =>
    simp only;cases hd:g.dst with
    | none=>rfl
    | some t =>
     have hne:d≠t:=by rintro rfl;refine h d rfl ?_;unfold looks;refine Aw _ ?_;simp[hg,hj,hd]
     simp only[j5];rw[Ao hne]
theorem qK{o:Oper}{tm:List AV}{s:Nat}(h:∀(t:Nat) (v:AV),t∈looks ops o->tm[t]? = some v->zl s v=true):∀x∈o.op.operands,∀v,evO E tm x=some v->zl s v=true:=by
 intro x hx v hv;cases x with
 | tmp t=>exact h t v (zF0 hx) hv
 | const c=>simp only[evO] at hv;split at hv <;> simp at hv;subst hv;rfl
 | global g=>simp only[evO] at hv;split at hv <;> simp at hv;subst hv;rfl
 | func f=>simp only[evO,Ae] at hv;subst hv;rfl
theorem untouched{o:Oper}{st:St}{ef:Eff}(h:zBY E call ops o st=some ef){s:Nat}(hd:o.dst≠some s)(hown:owns o.op=true->o.dst.isSome=true)
  (hl:∀(t:Nat) (v:AV),t∈looks ops o->st.tm[t]? = some v->zl s v=true) (hh:∀b ob,slot st.hp b=some ob->zn s ob.blk=true):Eff.off s ef\/(o.dst=none/\ef.new=none/\(∀b k,ef.upd=some (b,k)->b≠s/\zn s k=true)/\ef.kil≠some s/\s ∉ ef.frz):=by
 rcases YF h with ⟨_,rfl⟩ | ⟨_,he,hc⟩
 ·exact .inl (zv rfl)
 ·cases hdst:o.dst with
  | some d =>
   left;have:s≠zg o:=by unfold zg;rw[hdst];simp;rintro rfl;exact hd hdst
   exact zEj he this (qK hl) hh
  | none =>
   right;have hno:owns o.op=false:=by
    cases hx:owns o.op with
    | false=>rfl
    | true=>have:=hown hx;rw[hdst] at this;simp at this
   have hnew:ef.new=none:=by
    cases hn:ef.new with
    | none=>rfl
    | some b=>have:=(Qq he).new (by simp[hn]);rw[hno] at this;simp at this
   rw[zJm hno _ (s+1)] at he;have ho:=zEj he (by omega) (qK hl) hh
   exact⟨rfl,hnew,ho.upd,ho.kil,ho.frz⟩
theorem J6{o:Oper}{st:St}{ef:Eff}(h:zBY E call ops o st=some ef){s:Nat}(hd:o.dst≠some s)(hown:owns o.op=true->o.dst.isSome=true)
  (hl:∀(t:Nat) (v:AV),t∈looks ops o->st.tm[t]? = some v->zl s v=true) (hh:∀b ob,slot st.hp b=some ob->zn s ob.blk=true):¬ef.touch (zg o) s:=by
 have hs:ef.new.isSome=true->s≠zg o:=λhn=>by obtain⟨b,hb⟩:=Ad.1 hn;obtain⟨hds,_⟩:=(Yq h).2.2.2 b hb;obtain⟨d,hdd⟩:=Ad.1 hds;unfold zg;rw[hdd];simp;rintro rfl;exact hd hdd
 rcases untouched h hd hown hl hh with ho | ⟨_,hn,h1,h2,h3⟩
 ·rintro (a | ⟨k,a⟩ | a | ⟨a,b⟩)
  ·exact ho.frz a
  ·exact(ho.upd s k a).1 rfl
  ·exact ho.kil a
  ·exact hs a b
 ·rintro (a | ⟨k,a⟩ | a | ⟨a,b⟩)
  ·exact h3 a
  ·exact(h1 s k a).1 rfl
  ·exact h2 a
  ·exact hs a b
structure Pair(ops:List Oper)(a b:Oper):Prop where
 ma:a∈ops
 mb:b∈ops
 oa:owns a.op=true->a.dst.isSome=true
 ob:owns b.op=true->b.dst.isSome=true
 ne:∀d,a.dst=some d->b.dst≠some d
 ab:∀d,a.dst=some d->d ∉ looks ops b
 ba:∀d,b.dst=some d->d ∉ looks ops a
 la:(cls ops a.op).loud=true->(cls ops b.op).heeds=false
 lb:(cls ops b.op).loud=true->(cls ops a.op).heeds=false
theorem Pair.symm{a b:Oper}(h:Pair ops a b):Pair ops b a:=⟨h.mb,h.ma,h.ob,h.oa,λd hb ha=>h.ne d ha hb,h.ba,h.ab,h.lb,h.la⟩
structure Know(ops:List Oper)(o:Oper)(st:St):Prop where
 free:owns o.op=true->freeRef (zg o) st
 only:∀t,qn ops o.op=some t->onlyAt t st
theorem zBn{op:Op}{t:Tmp}(h:qn ops op=some t):cls ops op=.C/\zIW op=some t/\priv ops t=true:=by
 unfold qn at h;cases hc:cls ops op <;> rw[hc] at h <;> simp at h
 refine⟨rfl,h,?_⟩;cases op <;> simp only[cls] at hc <;> try (cases hc;done)
 rename_i c;cases hcc:c.callee <;> rw[hcc] at hc <;> try (simp at hc;done)
 rename_i bi;cases bi <;> simp only at hc <;> try (cases hc;done)
 split at hc
 ·cases hc
 ·rw[h] at hc;simp only at hc;split at hc
  ·assumption
  ·cases hc
theorem zDi{o:Oper}{t:Tmp}(h:zIW o.op=some t):t∈looks ops o:=by
 unfold zIW at h;split at h
 ·rename_i c hop;split at h
  ·rename_i t' hcc hx;injection h with h;subst h
   refine zF0 ?_;rw[hop];simp only[Aa,AD];have:By t'∈c.args.toList:=Bi hx;simp;exact .inr (by simpa using this)
  ·simp at h
 ·simp at h
theorem zJN{t:Tmp}(h:priv ops t=true){x y:Oper}(hx:x∈ops)(hy:y∈ops)(hne:x≠y)(lx:t∈looks ops x):t ∉ looks ops y:=by
 intro ly;unfold priv at h;simp only[Ab,decide_eq_true_eq] at h;have hlen:=h.2;have mx:x∈ops.filter λo=>(looks ops o).contains t:=Bv.2 ⟨hx,by simpa using lx⟩
 have my:y∈ops.filter λo=>(looks ops o).contains t:=Bv.2 ⟨hy,by simpa using ly⟩
 match hf:ops.filter λo=>(looks ops o).contains t with
 | []=>rw[hf] at mx;simp at mx
 | [z]=>rw[hf] at mx my;simp at mx my;exact hne (mx.trans my.symm)
 | _ :: _ :: _=>rw[hf] at hlen;simp at hlen
theorem zDc{op:Op}(h:(cls ops op).heeds=false):JD op=false/\(∀c,op=.call c->c.callee≠.builtin .append/\c.callee≠.builtin .copy/\∀f,c.callee≠.value f):=by
 cases op <;> simp only[cls] at h <;> try (simp[Cls.heeds] at h;done)
 all_goals try (exact⟨rfl,by simp⟩)
 rename_i c;refine⟨?_,λc' e=>?_⟩
 ·simp only[JD];split
  ·rename_i hc;rw[hc] at h;simp[Cls.heeds] at h
  ·rfl
 ·injection e with e;subst e
  refine⟨λhc=>?_,λhc=>?_,λf hc=>?_⟩
  ·rw[hc] at h;simp only at h;split at h
   ·simp[Cls.heeds] at h
   ·split at h
    ·split at h <;> simp[Cls.heeds] at h
    ·simp[Cls.heeds] at h
  ·rw[hc] at h;simp[Cls.heeds] at h
  ·rw[hc] at h;simp[Cls.heeds] at h
theorem zIe{op:Op}(h:JD op=true):(cls ops op).loud=true:=by
 cases op <;> simp only[JD] at h <;> try (simp at h;done)
 all_goals try rfl
 rename_i c;split at h
 ·rename_i hc;simp[cls,hc,Cls.loud]
 ·simp at h
theorem Pair.priv{a b:Oper}(h:Pair ops a b){t:Tmp}(ht:qn ops a.op=some t)(hds:a.dst.isSome=true):t ∉ looks ops b/\b.dst≠some t:=by
 obtain⟨_,h2,h3⟩:=zBn ht;have hla:=zDi (ops:=ops) h2;refine⟨zJN h3 h.ma h.mb ?_ hla,λhb=>h.ba t hb hla⟩
 rintro rfl;obtain⟨d,hd⟩:=Ad.1 hds;exact h.ne d hd hd
theorem kil_dst{o:Oper}{st:St}{ef:Eff}(h:zBY E call ops o st=some ef){b:Nat}(hk:ef.kil=some b)(hown:owns o.op=true->o.dst.isSome=true):o.dst.isSome=true:=by
 refine hown ?_;rcases YF h with ⟨_,rfl⟩ | ⟨_,he,_⟩
 ·simp at hk
 ·cases hx:owns o.op with
  | true=>rfl
  | false =>
   have:=(Qq he).kil (λc e hc=>by rw[e] at hx;simp[owns,hc] at hx)
   rw[this] at hk;simp at hk
theorem zJE{x y:Oper}{st:St}(hp:Pair ops x y)(ky:Know ops y st)(kx:Know ops x st){ey:Eff}(hy:zBY E call ops y st=some ey)
  (hok:∃e,(jj E call x.op (zg x) st.tm st.hp=some e\/jj E call x.op (zg x) (zq ey y.dst (zg y) st).tm (zq ey y.dst (zg y) st).hp=some e) /\
   ((cls ops x.op).loud=true\/(e.kil=none\/e.kil=qn ops x.op))) :
  jj E call x.op (zg x) st.tm st.hp=jj E call x.op (zg x) (zq ey y.dst (zg y) st).tm (zq ey y.dst (zg y) st).hp:=by
 have htm:(zq ey y.dst (zg y) st).tm=j5 st.tm y.dst ey.v:=rfl;have hev:=evO_put (E:=E) (ops:=ops) (o:=x) (tm:=st.tm) (dst:=y.dst) (v:=ey.v) hp.ba;rw[htm] at hok ⊢;rw[<-effE_tm (hp:=(zq ey y.dst (zg y) st).hp) hev] at hok ⊢;cases hx:(cls ops x.op).heeds with
 | false=>exact effE_quiet hx _ _ _ _
 | true =>
  have hyl:(cls ops y.op).loud=false:=by
   cases h:(cls ops y.op).loud with
   | false=>rfl
   | true=>have:=hp.lb h;rw[hx] at this;cases this
  obtain⟨hF,_,hchk,hnew⟩:=Yq hy;have hchk':ey.upd=none/\(ey.kil=none\/ey.kil=qn ops y.op):=by
   rcases hchk with h | h
   ·rw[hyl] at h;cases h
   ·exact h
  have hko:∀s,ey.kil=some s->onlyAt s st/\s ∉ looks ops x:=λs hs=>by
   have hm:qn ops y.op=some s:=by
    rcases hchk'.2 with e | e
    ·rw[e] at hs;cases hs
    ·rw[<-e];exact hs
   exact⟨ky.only s hm,(hp.symm.priv hm (kil_dst hy hs hp.ob)).1⟩
  have hno:∀s,ey.new.isSome=true->s=zg y->freeRef s st:=λs hn e=>by subst e;exact ky.free (hF.new hn)
  let X:Nat->Prop:=λs=>(ey.new.isSome=true/\s=zg y)\/ey.kil=some s
  have hnr:∀o∈x.op.operands,∀v,evO E st.tm o=some v->nrX X v:=λo ho v hv s hs=>by
   rcases hs with ⟨hn,e⟩ | hk
   ·exact qK (E:=E) (ops:=ops) (o:=x) (λt v _ h=>(hno s hn e).2.1 t v h) o ho v hv
   ·obtain⟨h1,h2⟩:=hko s hk;exact qK (E:=E) (ops:=ops) (o:=x) (λt v ht h=>h1.1 t v (by rintro rfl;exact h2 ht) h) o ho v hv
  have hslot:∀b,¬X b->slot (zq ey y.dst (zg y) st).hp b=F1 ey b (slot st.hp b):=by
   intro b hb;have hb1:ey.kil≠some b:=λh=>hb (.inr h)
   have hb2:ey.new.isSome=true->b≠zg y:=λh e=>hb (.inl ⟨h,e⟩)
   rw[Yt,JW];have hff:∀o,FF ey (zg y) b o=F1 ey b o:=λo=>by
    unfold FF F2 F3 F4;rw[hchk'.1,if_neg hb1];cases hn:ey.new with
    | none=>rfl
    | some k=>simp only;rw[if_neg (hb2 (by simp[hn]))]
   cases st.hp[b]? with
   | none=>simp[F1,fzO]
   | some o=>simp only[Ar];exact hff o
  have hsim:HSim X st.hp (zq ey y.dst (zg y) st).hp:=⟨λb hb=>by
   rw[hslot b hb];unfold F1;split
   ·cases slot st.hp b <;> rfl
   ·rfl,λb ob _ hs s hX=>by
   rcases hX with ⟨hn,e⟩ | hk
   ·exact(hno s hn e).2.2 b ob hs
   ·exact(hko s hk).1.2 b ob hs⟩
  have hquiet:(cls ops x.op).loud=true->∀b,¬X b->slot st.hp b=slot (zq ey y.dst (zg y) st).hp b:=λhl b hb=>by obtain⟨q1,q2⟩:=zDc (hp.la hl);rw[hslot b hb];unfold F1;rw[hF.frz q2];simp
  refine effE_hp hsim hnr (λhw=>hquiet (zIe hw)) λc z hop hcc hz b off len sz hzv=>?_
  obtain⟨e,he,hkil⟩:=hok;have hek:e.kil=some b:=by
   rw[hop] at he;rcases he with he | he
   ·exact(zEr he hcc).1 z hz b off len sz hzv
   ·exact(zEr he hcc).1 z hz b off len sz hzv
  have hzo:z∈x.op.operands:=by rw[hop];simp only[Aa,AD];have:z∈c.args.toList:=Bi hz;simp;exact .inr (by simpa using this)
  rcases hkil with hl | hl | hl
  ·exact hquiet hl b (hnr z hzo _ hzv).own
  ·rw[hek] at hl;cases hl
  ·rw[hek] at hl;have hxd:x.dst.isSome=true:=hp.oa (by rw[hop];simp[owns,hcc])
   obtain⟨p1,p2⟩:=hp.priv hl.symm hxd;have honly:=kx.only b hl.symm;have hnt:=J6 hy p2 hp.ob (λt v ht h=>honly.1 t v (by rintro rfl;exact p1 ht) h) honly.2
   rw[Yt,JW];cases st.hp[b]? with
   | none=>rfl
   | some o=>simp only[Ar];rw[zDv hnt]
theorem swap{a b:Oper}{st st1 st2:St}(hp:Pair ops a b)(ka:Know ops a st)(kb:Know ops b st)(h1:qP E call ops a st=some st1)(h2:qP E call ops b st1=some st2) :
  ∃st1',qP E call ops b st=some st1'/\qP E call ops a st1'=some st2:=by
 unfold qP at h1 h2;obtain⟨ea,hea,h1⟩:=zA h1;obtain⟨g1,h1⟩:=zG h1;injection h1 with h1;subst h1
 obtain⟨eb,heb,h2⟩:=zA h2;obtain⟨g2,h2⟩:=zG h2;injection h2 with h2;subst h2
 have heb0:zBY E call ops b st=some eb:=by
  have hg:jv ops b st.tm=jv ops b (zq ea a.dst (zg a) st).tm:=zEb hp.ab;rcases YF heb with ⟨hb,rfl⟩ | ⟨hb,he,hc⟩
  ·unfold zBY;rw[hg,hb];rfl
  ·have hs:=zJE hp.symm ka kb hea ⟨eb,.inr he,by
    obtain⟨_,_,h,_⟩:=Yx hc;exact h.imp id (·.2)⟩
   unfold zBY;rw[hg,hb];simp only[zL];rw[hs,he];exact hc
 obtain⟨fA,okA,chA,nwA⟩:=Yq hea;obtain⟨fB,okB,chB,nwB⟩:=Yq heb0;have g2':(eb.new.isNone || (slot st.hp (zg b)).isNone)=true:=by
  cases hn:eb.new with
  | none=>rfl
  | some k=>simp[(kb.free (fB.new (by simp[hn]))).1]
 refine⟨zq eb b.dst (zg b) st,?_,?_⟩
 ·unfold qP;rw[heb0];simp only[zL,g2',zc]
 ·have hea1:zBY E call ops a (zq eb b.dst (zg b) st)=some ea:=by
   have hg:jv ops a st.tm=jv ops a (zq eb b.dst (zg b) st).tm:=zEb hp.ba;rcases YF hea with ⟨hb,rfl⟩ | ⟨hb,he,hc⟩
   ·unfold zBY;rw[<-hg,hb];rfl
   ·have hs:=zJE hp kb ka heb0 ⟨ea,.inl he,by
     obtain⟨_,_,h,_⟩:=Yx hc;exact h.imp id (·.2)⟩
    unfold zBY;rw[<-hg,hb];simp only[zL];rw[<-hs,he];exact hc
  have siteNe:ea.new.isSome=true->eb.new.isSome=true->zg a≠zg b:=λha hb=>by obtain⟨k1,e1⟩:=Ad.1 ha;obtain⟨k2,e2⟩:=Ad.1 hb;obtain⟨d1,hd1⟩:=Ad.1 (nwA k1 e1).1;obtain⟨d2,hd2⟩:=Ad.1 (nwB k2 e2).1;unfold zg;rw[hd1,hd2];simp;rintro rfl;exact hp.ne d1 hd1 hd2
  have g1':(ea.new.isNone || (slot (zq eb b.dst (zg b) st).hp (zg a)).isNone)=true:=by
   cases hn:ea.new with
   | none=>rfl
   | some k =>
    have h0:=(ka.free (fA.new (by simp[hn]))).1
    rw[Yt];rw[JW] at h0;cases hx:st.hp[zg a]? with
    | none=>rfl
    | some o =>
     rw[hx] at h0;simp only[Ar] at h0;subst h0;simp only[Option.isNone_some,BA];have:FF eb (zg b) (zg a) none=none:=by
      unfold FF F1 F2 F3 F4;simp only[fzO,Bl,ite_self];cases hu:eb.upd with
      | none =>
       simp only[ite_self];cases hb:eb.new with
       | none=>rfl
       | some k2=>simp only;rw[if_neg (siteNe (by simp[hn]) (by simp[hb]))]
      | some p =>
       obtain⟨u,k'⟩:=p;simp only[ite_self];cases hb:eb.new with
       | none=>rfl
       | some k2=>simp only;rw[if_neg (siteNe (by simp[hn]) (by simp[hb]))]
     rw[this];rfl
  unfold qP;rw[hea1];simp only[zL,g1',zc,Ae];refine(zI3 (d1:=a.dst) (d2:=b.dst) hp.ne λc ta tb=>?_).symm
  have cross:∀{x y:Oper} {ex ey:Eff},Pair ops x y->Know ops x st->Know ops y st->zBY E call ops x st=some ex->zBY E call ops y st=some ey->ex.touch (zg x) c->ey.touch (zg y) c ->
    (∀k,ex.upd≠some (c,k))/\ex.kil≠some c/\(ex.new.isSome=true->c≠zg x):=by
   intro x y ex ey hp kx ky hex hey tx ty;obtain⟨fX,_,chX,nwX⟩:=Yq hex;obtain⟨fY,_,_,_⟩:=Yq hey;have newX:ex.new.isSome=true->c≠zg x:=λhn e=>by
    obtain⟨k,hk⟩:=Ad.1 hn;obtain⟨d,hd⟩:=Ad.1 (nwX k hk).1;have hfree:=kx.free (fX.new hn);have hds:zg x=d:=by unfold zg;rw[hd];rfl
    refine J6 hey (s:=c) ?_ hp.ob (λt v _ h=>by rw[e];exact hfree.2.1 t v h) (λb ob h=>by rw[e];exact hfree.2.2 b ob h) ty
    rw[e,hds];exact hp.ne d hd
   have loudX:(cls ops x.op).loud=true->(∃ob,slot st.hp c=some ob)->False:=λhl ⟨ob,hob⟩=>by
    obtain⟨q1,q2⟩:=zDc (hp.la hl);rcases ty with a | ⟨k,a⟩ | a | ⟨a,e⟩
    ·rw[fY.frz q2] at a;simp at a
    ·rw[fY.upd q1] at a;cases a
    ·rw[fY.kil λc' e=>(q2 c' e).1] at a;cases a
    ·have:=(ky.free (fY.new a)).1;rw[<-e,hob] at this;cases this
   refine⟨λk hu=>?_,λhk=>?_,newX⟩
   ·rcases chX with hl | ⟨hn,_⟩
    ·exact loudX hl (fX.liveU c k hu)
    ·rw[hn] at hu;cases hu
   ·rcases chX with hl | ⟨_,hn | hm⟩
    ·exact loudX hl (fX.liveK c hk)
    ·rw[hn] at hk;cases hk
    ·rw[hk] at hm;have hds:=kil_dst hex hk hp.oa;obtain⟨p1,p2⟩:=hp.priv hm.symm hds;have honly:=kx.only c hm.symm;exact J6 hey p2 hp.ob (λt v ht h=>honly.1 t v (by rintro rfl;exact p1 ht) h) honly.2 ty
  have ca:=cross hp ka kb hea heb0 ta tb;have cb:=cross hp.symm kb ka heb0 hea tb ta;have fin:∀{e:Eff} {s:Nat},e.touch s c->(∀k,e.upd≠some (c,k))/\e.kil≠some c/\(e.new.isSome=true->c≠s)->e.marks s c:=by
   intro e s t h;refine⟨?_,h.1,h.2.1,h.2.2⟩;rcases t with a | ⟨k,a⟩ | a | ⟨a,b⟩
   ·exact a
   ·exact absurd a (h.1 k)
   ·exact absurd a h.2.1
   ·exact absurd b (h.2.2 a)
  exact⟨fin ta ca,fin tb cb⟩
end
end Go.Am
namespace Go.Am
open Go.Proofs
open Go Go.RowKit
section
variable{E:Env}{call:FuncId->List DV->Option CR}{ops:List Oper}{s:Nat}
theorem FF_noRef{ef:Eff}{site b:Nat}{o:Option OB}{ob:OB}(h:FF ef site b o=some ob)(ho:∀ob0,o=some ob0->zn s ob0.blk=true)(hn:∀k,ef.new=some k->zn s k=true)(hu:∀b k,ef.upd=some (b,k)->zn s k=true):zn s ob.blk=true:=by
 have h1:∀ob0,F1 ef b o=some ob0->zn s ob0.blk=true:=λob0 h=>by
  unfold F1 at h;split at h
  ·cases o with
   | none=>simp[fzO] at h
   | some x=>simp only[fzO,AH,Ae] at h;subst h;exact ho x rfl
  ·exact ho ob0 h
 have h2:∀ob0,F2 ef b (F1 ef b o)=some ob0->zn s ob0.blk=true:=λob0 h=>by
  unfold F2 at h;cases hup:ef.upd with
  | none=>rw[hup] at h;exact h1 ob0 h
  | some p =>
   obtain⟨u,k⟩:=p;rw[hup] at h;simp only at h;split at h
   ·cases hx:F1 ef b o with
    | none=>rw[hx] at h;simp at h
    | some x=>rw[hx] at h;simp only[AH,Ae] at h;subst h;exact hu u k hup
   ·exact h1 ob0 h
 have h3:∀ob0,F3 ef b (F2 ef b (F1 ef b o))=some ob0->zn s ob0.blk=true:=λob0 h=>by
  unfold F3 at h;split at h
  ·cases h
  ·exact h2 ob0 h
 unfold FF F4 at h;cases hnew:ef.new with
 | none=>rw[hnew] at h;exact h3 ob h
 | some k =>
  rw[hnew] at h;simp only at h;split at h
  ·injection h with h;subst h;exact hn k hnew
  ·exact h3 ob h
theorem zCI{ef:Eff}{dst:Option Tmp}{site:Nat}{st:St}(h:∀b ob,slot st.hp b=some ob->zn s ob.blk=true)(hn:∀k,ef.new=some k->zn s k=true)(hu:∀b k,ef.upd=some (b,k)->zn s k=true) :
  ∀b ob,slot (zq ef dst site st).hp b=some ob->zn s ob.blk=true:=by
 intro b ob hb;rw[Yt] at hb;cases ho:st.hp[b]? with
 | none=>rw[ho] at hb;cases hb
 | some o =>
  rw[ho] at hb;refine FF_noRef hb (λob0 e=>h b ob0 ?_) hn hu
  rw[JW,ho,e];rfl
theorem zDK{tm:List AV}{dst:Option Tmp}{v:AV}{t:Nat}{x:AV}(h:(j5 tm dst v)[t]? = some x):tm[t]? = some x\/(dst=some t/\x=v):=by
 cases dst with
 | none=>exact .inl h
 | some d =>
  simp only[j5] at h;by_cases e:t=d
  ·subst e;have hlt:t<tm.length:=by have:=(Ac.1 h).1;simpa using this
   rw[At hlt] at h;injection h with h
   exact .inr ⟨rfl,h.symm⟩
  ·rw[Ao (AG e)] at h;exact .inl h
theorem zGy{ef:Eff}{dst:Option Tmp}{site:Nat}{st:St}(h:onlyAt s st)(hv:dst=none\/dst=some s\/zl s ef.v=true)(hn:∀k,ef.new=some k->zn s k=true)(hu:∀b k,ef.upd=some (b,k)->zn s k=true):onlyAt s (zq ef dst site st):=by
 refine⟨λt v hne ht=>?_,zCI h.2 hn hu⟩
 rcases zDK (show(j5 st.tm dst ef.v)[t]? = some v from ht) with ht | ⟨hd,rfl⟩
 ·exact h.1 t v hne ht
 ·rcases hv with e | e | e
  ·rw[e] at hd;cases hd
  ·rw[e] at hd;injection hd with hd;exact absurd hd.symm hne
  ·exact e
theorem pres_free{ef:Eff}{dst:Option Tmp}{site:Nat}{st:St}(h:freeRef s st)(hv:dst=none\/zl s ef.v=true)(hn:∀k,ef.new=some k->zn s k=true)(hu:∀b k,ef.upd=some (b,k)->zn s k=true)
  (ht:¬ef.touch site s):freeRef s (zq ef dst site st):=by
 refine⟨?_,λt v hx=>?_,zCI h.2.2 hn hu⟩
 ·have h0:=h.1;rw[Yt];rw[JW] at h0;cases ho:st.hp[s]? with
  | none=>rfl
  | some o=>rw[ho] at h0;simp only[Ar] at h0;subst h0;exact zDv ht _
 ·rcases zDK (show(j5 st.tm dst ef.v)[t]? = some v from hx) with hx | ⟨hd,rfl⟩
  ·exact h.2.1 t v hx
  ·rcases hv with e | e
   ·rw[e] at hd;cases hd
   ·exact e
theorem freeRef.only{st:St}(h:freeRef s st):onlyAt s st:=⟨λt v _ ht=>h.2.1 t v ht,h.2.2⟩
mutual
theorem zAn(c:Nat):∀v:AV,zl s v=true->zl s (ju c v)=true
 | .own b o l z,h=>by simp only[ju];split <;> first | rfl | exact h
 | .ptr b z e p,h=>by simp only[ju];split <;> first | rfl | exact h
 | .omp b,h=>by simp only[ju];split <;> first | rfl | exact h
 | .it b,h=>by simp only[ju];split <;> first | rfl | exact h
 | .agg t fs,h=>by simp only[zl] at h;simp only[ju,zl];exact YP c fs h
 | .fn f x y,h=>by simp only[zl,Ab] at h;simp only[ju,zl,Ab];exact⟨YP c x h.1,YP c y h.2⟩
 | .d x,_=>rfl
 | .undef,_=>rfl
theorem YP(c:Nat):∀l:List AV,jS s l=true->jS s (qp c l)=true
 | [],_=>rfl
 | v :: r,h=>by simp only[jS,Ab] at h;simp only[qp,jS,Ab];exact⟨zAn c v h.1,YP c r h.2⟩
end
mutual
theorem Q8(c:Nat):∀v:AV,zl c (ju c v)=true
 | .own b o l z=>by simp only[ju];split <;> simp_all[zl]
 | .ptr b z e p=>by simp only[ju];split <;> simp_all[zl]
 | .omp b=>by simp only[ju];split <;> simp_all[zl]
 | .it b=>by simp only[ju];split <;> simp_all[zl]
 | .agg t fs=>by simp only[ju,zl];exact JF c fs
 | .fn f x y=>by simp only[ju,zl,Ab];exact⟨JF c x,JF c y⟩
 | .d x=>rfl
 | .undef=>rfl
theorem JF(c:Nat):∀l:List AV,jS c (qp c l)=true
 | []=>rfl
 | v :: r=>by simp only[qp,jS,Ab];exact⟨Q8 c v,JF c r⟩
end
theorem zFn{c t:Nat}{st:St}{v:AV}(h:(clear c st).tm[t]? = some v):∃v0,st.tm[t]? = some v0/\v=ju c v0:=by
 simp only[clear,Y3,AS] at h;cases ht:st.tm[t]? with
 | none=>rw[ht] at h;cases h
 | some x=>rw[ht] at h;injection h with h;exact⟨x,rfl,h.symm⟩
theorem zDI{c b:Nat}{st:St}{ob:OB}(h:slot (clear c st).hp b=some ob):b≠c/\∃ob0,slot st.hp b=some ob0/\(zn s ob0.blk=true->zn s ob.blk=true)/\zn c ob.blk=true:=by
 obtain⟨hne,ob0,h0,hk⟩:=Jp h;refine⟨hne,ob0,h0,?_⟩;unfold YC at hk;split at hk
 ·rename_i hx;injection hx with hx;subst hx;injection hk with hk;subst hk
  exact⟨λh=>YP c _ h,JF c _⟩
 ·rename_i hne;injection hk with hk;subst hk
  obtain⟨z,blk⟩:=ob0;cases blk with
  | ac sz xs=>exact absurd rfl (hne z sz xs)
  | _=>exact⟨λh=>h,rfl⟩
theorem freeRef.clear{st:St}(h:freeRef s st)(c:Nat):freeRef s (clear c st):=by
 refine⟨?_,λt v ht=>?_,λb ob hb=>?_⟩
 ·cases hs:slot (Am.clear c st).hp s with
  | none=>rfl
  | some ob=>obtain⟨_,ob0,h0,_⟩:=Jp hs;rw[h.1] at h0;cases h0
 ·obtain⟨v0,h0,rfl⟩:=zFn ht;exact zAn c v0 (h.2.1 t v0 h0)
 ·obtain⟨_,ob0,h0,h1,_⟩:=zDI (s:=s) hb;exact h1 (h.2.2 b ob0 h0)
theorem onlyAt.clear{st:St}(h:onlyAt s st)(c:Nat):onlyAt s (clear c st):=by
 refine⟨λt v hne ht=>?_,λb ob hb=>?_⟩
 ·obtain⟨v0,h0,rfl⟩:=zFn ht;exact zAn c v0 (h.1 t v0 hne h0)
 ·obtain⟨_,ob0,h0,h1,_⟩:=zDI (s:=s) hb;exact h1 (h.2 b ob0 h0)
theorem zBh(c:Nat)(st:St):freeRef c (clear c st):=by
 refine⟨?_,λt v ht=>?_,λb ob hb=>?_⟩
 ·cases hs:slot (clear c st).hp c with
  | none=>rfl
  | some ob=>exact absurd rfl (Jp hs).1
 ·obtain⟨v0,_,rfl⟩:=zFn ht;exact Q8 c v0
 ·exact(zDI (s:=c) hb).2.choose_spec.2.2
theorem qE:∀(bs:List Nat) (st:St) (b:Nat),(b∈bs\/freeRef b st)->freeRef b (clearL bs st)
 | [],st,b,h=>h.resolve_left (by simp)
 | c :: bs,st,b,h=>by
  simp only[clearL];refine qE bs _ b ?_;rcases h with h | h
  ·rcases Au.1 h with rfl | h
   ·exact .inr (zBh b st)
   ·exact .inl h
  ·exact .inr (h.clear c)
theorem clear_free{st:St}(h:freeRef s st):clear s st=st:=by
 have h1:qp s st.tm=st.tm:=by
  refine Qm s _ (qH λv hv=>?_)
  obtain⟨i,hi,rfl⟩:=AF.1 hv;exact h.2.1 i _ (Ah hi)
 have h2:(st.hp.map (YC s)).set s none=st.hp:=by
  apply Bo;intro b;by_cases e:b=s
  ·subst e;have h0:=h.1;rw[JW] at h0;cases hb:st.hp[b]? with
   | none=>rw[AT (by simpa using AR.1 hb)];simp[hb]
   | some o =>
    rw[hb] at h0;simp only[Ar] at h0;subst h0;have hlt:b<st.hp.length:=(Ac.1 hb).1;rw[At (by simpa using hlt)]
  ·rw[Ao (AG e),AS];cases hb:st.hp[b]? with
   | none=>rfl
   | some o =>
    cases o with
    | none=>rfl
    | some ob =>
     obtain⟨z,blk⟩:=ob;have hs:slot st.hp b=some ⟨z,blk⟩:=by rw[JW,hb];rfl
     simp only[AH,zJZ (h.2.2 b _ hs)]
 unfold clear;rw[h1,h2]
def zAS(E:Env)(call:FuncId->List DV->Option CR)(ops:List Oper)(o:Oper)(i:Nat)(st:St):Option St :=
 match pivot ops i with
 | true=>bnd (jv ops o st.tm) λg=>match g with
  | true=>YU E call o st
  | false=>some { st with tm:=j5 st.tm o.dst (.d (.tup [])) }
 | false=>qP E call ops o st
def zGv(E:Env)(call:FuncId->List DV->Option CR)(ops:List Oper):List (Oper×Nat)->St->Option St
 | [],st=>some st
 | (o,i) :: r,st=>bnd (zAS E call ops o i st) (zGv E call ops r)
theorem zIg{o:Oper}{st:St}:(bnd (jv ops o st.tm) λg=>match g with
  | true=>zCR E call (cls ops o.op).loud (qn ops o.op) o st
  | false=>some { st with tm:=j5 st.tm o.dst (.d (.tup [])) })=qP E call ops o st:=by
 unfold qP zBY;cases hg:jv ops o st.tm with
 | none=>rfl
 | some g =>
  cases g with
  | false=>rfl
  | true =>
   simp only[zL];unfold zCR;cases he:jj E call o.op (zg o) st.tm st.hp with
   | none=>rfl
   | some ef =>
    simp only[zL];unfold zGT;cases hc:(ef.ok && ((cls ops o.op).loud || (ef.upd.isNone && (ef.kil.isNone || ef.kil == qn ops o.op)))) with
    | false=>rfl
    | true =>
     simp only[zc];cases hn:ef.new with
     | none=>simp[hn]
     | some b =>
      simp only;cases h1:(o.dst.isSome && zn (zg o) b) with
      | false=>simp
      | true=>simp[hn]
theorem zAl{K:St->Option CR}{r:CR}:∀(L:List (Oper×Nat)) (st:St),Ya E call ops (L.map λp=>(p.1,pivot ops p.2)) st K=some r->∃stf,zGv E call ops L st=some stf/\K stf=some r
 | [],st,h=>⟨st,rfl,h⟩
 | (o,i) :: L,st,h=>by
  simp only[Bz,Ya] at h;have hstep:∃st1,zAS E call ops o i st=some st1/\Ya E call ops (L.map λp=>(p.1,pivot ops p.2)) st1 K=some r:=by
   unfold zAS;rw[<-zIg];obtain⟨g,hg,h⟩:=zA h;rw[hg];cases g with
   | true =>
    obtain⟨st1,h1,h⟩:=zA h;cases hp:pivot ops i with
    | true=>rw[hp] at h1;exact⟨st1,h1,h⟩
    | false=>rw[hp] at h1;exact⟨st1,h1,h⟩
   | false =>
    cases hp:pivot ops i with
    | true=>exact⟨_,rfl,h⟩
    | false=>exact⟨_,rfl,h⟩
  obtain⟨st1,h1,h2⟩:=hstep;obtain⟨stf,h3,h4⟩:=zAl L st1 h2;exact⟨stf,by simp only[zGv,h1,zL,h3],h4⟩
end
end Go.Am
namespace Go.Am
open Go.Proofs
open Go Go.RowKit
section
variable{P:Program}{E:Env}{call:FuncId->List DV->Option CR}{ops:List Oper}
theorem zDa(acc:List Nat):∀(es:List Edge) (s k:Nat),(es.foldl (λs e=>if AJ .any e then s ||| (2 ^ e.on) ||| acc.getD e.on 0 else s) s).testBit k=true ->
  s.testBit k=true\/∃e∈es,AJ .any e=true/\(e.on=k\/(acc.getD e.on 0).testBit k=true)
 | [],s,k,h=>.inl h
 | e :: es,s,k,h=>by
  simp only[List.foldl_cons] at h;rcases zDa acc es _ k h with h | ⟨e',he',h⟩
  ·split at h
   ·rename_i hb;simp only[Nat.testBit_or,AI] at h;rcases h with (h | h) | h
    ·exact .inl h
    ·rw[Nat.testBit_two_pow] at h;exact .inr ⟨e,by simp,hb,.inl (by simpa using h)⟩
    ·exact .inr ⟨e,by simp,hb,.inr h⟩
   ·exact .inl h
  ·exact .inr ⟨e',by simp[he'],h⟩
theorem zEs:∀(r:List Oper) (acc:List Nat),(∃l,qu r acc=acc++l/\l.length=r.length) /\
  ∀j o,r[j]? = some o->∃m,(qu r acc)[acc.length+j]? = some m/\m=zCK ((qu r acc).take (acc.length+j)) o.after.toList
 | [],acc=>⟨⟨[],by simp[qu],rfl⟩,λj o h=>by simp at h⟩
 | o :: r,acc=>by
  obtain⟨⟨l,hl,hll⟩,hr⟩:=zEs r (acc++[zCK acc o.after.toList]);refine⟨⟨zCK acc o.after.toList :: l,by simp[qu,hl],by simp[hll]⟩,λj o' h=>?_⟩
  simp only[qu];cases j with
  | zero =>
   simp only[List.getElem?_cons_zero,Ae] at h;subst h;refine⟨zCK acc o.after.toList,?_,?_⟩
   ·rw[hl];simp
   ·rw[hl];simp
  | succ j =>
   obtain⟨m,h1,h2⟩:=hr j o' (by simpa using h)
   have e:(acc++[zCK acc o.after.toList]).length+j=acc.length+(j+1):=by simp;omega
   rw[e] at h1 h2;exact⟨m,h1,h2⟩
theorem getD_take{l:List Nat}{n i:Nat}(h:i<n):(l.take n).getD i 0=l.getD i 0:=by simp[BL,List.getElem?_take,h]
theorem anc_done(hb:qL ops=true)(done:Nat->Prop)(hcl:∀(j:Nat) o,ops[j]? = some o->done j->∀e∈o.after.toList,AJ .any e=true->done e.on) :
  ∀(j:Nat) (o:Oper),ops[j]? = some o->(∀e∈o.after.toList,AJ .any e=true->done e.on)->∀k,((qu ops []).getD j 0).testBit k=true->done k:=by
 have back:∀(j:Nat) (o:Oper),ops[j]? = some o->∀e∈o.after.toList,AJ .any e=true->e.on<j:=by
  intro j o ho e he hbd;unfold qL at hb;have hj:j<ops.length:=(Ac.1 ho).1;have hm:(o,j)∈ops.zipIdx:=by rw[Ai];exact⟨j,by simp[As,ho]⟩
  have h1:=Aj.1 hb (o,j) hm;have h2:=Aj.1 h1 e he;simpa[hbd] using h2
 intro j;induction j using Nat.strongRecOn with
 | _ j ih =>
  intro o ho he k hk;obtain⟨m,h1,h2⟩:=(zEs ops []).2 j o ho;simp only[List.length_nil,Bg] at h1 h2;have hm:(qu ops []).getD j 0=m:=by simp[BL,h1]
  rw[hm,h2] at hk;unfold zCK at hk;rcases zDa _ _ 0 k hk with h | ⟨e,hee,hbd,h⟩
  ·simp at h
  ·have hlt:=back j o ho e hee hbd;have hd:=he e hee hbd;rcases h with rfl | h
   ·exact hd
   ·rw[getD_take hlt] at h;have hj:j<ops.length:=(Ac.1 ho).1;have hoe:ops[e.on]? = some ops[e.on]:=Ah (by omega)
    exact ih e.on hlt _ hoe (hcl _ _ hoe hd) k h
def Inv(ops:List Oper)(L:List (Oper×Nat))(st:St):Prop :=
 ∀s∈anews ops,(∀p∈L,p.1.dst=some s->freeRef s st)/\∀p∈L,qn ops p.1.op=some s->onlyAt s st
structure Stat(ops:List Oper):Prop where
 plain:∀o∈ops,(owns o.op=true->o.dst.isSome=true)/\∀d,o.dst=some d->d ∉ looks ops o
 back:qL ops=true
 ord:∀(i j:Nat) a b,i<j->ops[i]? = some a->ops[j]? = some b->(∀d,a.dst=some d->b.dst≠some d)/\(clash ops a b=false\/((qu ops []).getD j 0).testBit i=true)
theorem stat_of(h:zIJ ops=true):Stat ops:=by
 unfold zIJ at h;simp only[Ab] at h;obtain⟨⟨h1,h2⟩,h3⟩:=h;refine⟨λo ho=>?_,h2,λi j a b hij ha hb=>?_⟩
 ·unfold zJO at h1;have:=Aj.1 h1 o ho;simp only[Ab,AI,Ap] at this;refine⟨λhx=>this.1.resolve_left (by simp[hx]),λd hd=>?_⟩
  have h4:=this.2;rw[hd] at h4;simpa using h4
 ·have hj:j<ops.length:=(Ac.1 hb).1;have h4:=Aj.1 h3 j (AQ.2 hj);have h5:=Aj.1 h4 i (AQ.2 hij);rw[ha,hb] at h5;simp only[Ab,AI,Ap] at h5;refine⟨λd hd hd2=>?_,h5.2⟩
  have:=h5.1;rw[hd,hd2] at this;simp at this
theorem anews_spec{s:Nat}(h:s∈anews ops):∃(i:Nat) (o:Oper),ops[i]? = some o/\pivot ops i=false/\owns o.op=true/\o.dst=some s:=by
 unfold anews at h;obtain⟨⟨o,i⟩,hm,h⟩:=A0.1 h;simp only at h;obtain⟨k,hk⟩:=Ai.1 hm;have hoi:ops[i]? = some o:=by simp only[As,Ba] at hk;obtain⟨x,hx,e⟩:=hk;simp only[Prod.mk.injEq] at e;obtain⟨rfl,rfl⟩:=e;simpa using hx
 split at h
 ·cases h
 ·rename_i hp;split at h
  ·exact⟨i,o,hoi,by simpa using hp,by assumption,h⟩
  ·cases h
theorem zG4{i:Nat}{o:Oper}(ho:ops[i]? = some o)(hp:pivot ops i=false)(hw:owns o.op=true){d:Tmp}(hd:o.dst=some d):d∈anews ops:=by
 unfold anews;refine A0.2 ⟨(o,i),?_,by simp[hp,hw,hd]⟩
 rw[Ai];exact⟨i,by simp[As,ho]⟩
theorem Stat.uniq(hs:Stat ops){i j:Nat}{a b:Oper}(ha:ops[i]? = some a)(hb:ops[j]? = some b){d:Tmp}(da:a.dst=some d)(db:b.dst=some d):i=j:=by
 rcases Nat.lt_trichotomy i j with h | h | h
 ·exact absurd db ((hs.ord i j a b h ha hb).1 d da)
 ·exact h
 ·exact absurd da ((hs.ord j i b a h hb ha).1 d db)
theorem Inv.know(hs:Stat ops){L:List (Oper×Nat)}{st:St}(hI:Inv ops L st){o:Oper}{i:Nat}(hm:(o,i)∈L)(ho:ops[i]? = some o)(hp:pivot ops i=false):Know ops o st:=by
 refine⟨λhw=>?_,λt ht=>?_⟩
 ·obtain⟨d,hd⟩:=Ad.1 ((hs.plain o (Ag ho)).1 hw);have:zg o=d:=by unfold zg;rw[hd];rfl
  rw[this];exact(hI d (zG4 ho hp hw hd)).1 (o,i) hm hd
 ·have hpr:=(zBn ht).2.2;unfold priv at hpr;simp only[Ab] at hpr;exact(hI t (by simpa using hpr.1)).2 (o,i) hm ht
theorem step_off(hs:Stat ops){o:Oper}{i:Nat}(ho:ops[i]? = some o){st st1:St}(h:zAS E call ops o i st=some st1) :
  ∃(ef:Eff) (st0:St),(st0=st\/st0=clear (zg o) st)/\st1=zq ef o.dst (zg o) st0/\(∀b,ef.new=some b->o.dst.isSome=true/\zn (zg o) b=true)/\(∀b k,ef.upd=some (b,k)->owns o.op=false) /\
   (pivot ops i=false->st0=st) /\
   ∀s,o.dst≠some s->(∀(t:Nat) (v:AV),t∈looks ops o->st.tm[t]? = some v->zl s v=true)->(∀b ob,slot st.hp b=some ob->zn s ob.blk=true) ->
    (o.dst=none\/zl s ef.v=true)/\(∀k,ef.new=some k->zn s k=true)/\(∀b k,ef.upd=some (b,k)->zn s k=true)/\¬ef.touch (zg o) s:=by
 have hown:=(hs.plain o (Ag ho)).1;have wr:∀{ef:Eff},jj E call o.op (zg o) st.tm st.hp=some ef->∀b k,ef.upd=some (b,k)->owns o.op=false:=by
  intro ef he b k hu;cases hw:owns o.op with
  | false=>rfl
  | true =>
   have hn:JD o.op=false:=by
    cases hop:o.op <;> rw[hop] at hw <;> simp only[owns] at hw <;> try (simp at hw;done)
    all_goals try rfl
    rename_i c;simp only[JD];split
    ·rename_i hc;rw[hc] at hw;simp at hw
    ·rfl
   rw[(Qq he).upd hn] at hu;cases hu
 have key:∀{ef:Eff},zBY E call ops o st=some ef->∀s,o.dst≠some s->(∀(t:Nat) (v:AV),t∈looks ops o->st.tm[t]? = some v->zl s v=true)->(∀b ob,slot st.hp b=some ob->zn s ob.blk=true) ->
    (o.dst=none\/zl s ef.v=true)/\(∀k,ef.new=some k->zn s k=true)/\(∀b k,ef.upd=some (b,k)->zn s k=true)/\¬ef.touch (zg o) s:=by
  intro ef hg s hd hl hh;refine⟨?_,?_,?_,J6 hg hd hown hl hh⟩
  ·rcases untouched hg hd hown hl hh with h | h
   ·exact .inr h.v
   ·exact .inl h.1
  ·rcases untouched hg hd hown hl hh with h | h
   ·exact h.new
   ·intro k hk;rw[h.2.1] at hk;cases hk
  ·rcases untouched hg hd hown hl hh with h | h
   ·exact λb k hu=>(h.upd b k hu).2
   ·exact λb k hu=>(h.2.2.1 b k hu).2
 have keyE:∀{ef:Eff},jj E call o.op (zg o) st.tm st.hp=some ef->(∀b,ef.new=some b->o.dst.isSome=true/\zn (zg o) b=true)->∀s,o.dst≠some s->(∀(t:Nat) (v:AV),t∈looks ops o->st.tm[t]? = some v->zl s v=true)->(∀b ob,slot st.hp b=some ob->zn s ob.blk=true) ->
    (o.dst=none\/zl s ef.v=true)/\(∀k,ef.new=some k->zn s k=true)/\(∀b k,ef.upd=some (b,k)->zn s k=true)/\¬ef.touch (zg o) s:=by
  intro ef he hnw s hd hl hh;cases hdst:o.dst with
  | some d =>
   have hne:s≠zg o:=by unfold zg;rw[hdst];simp;rintro rfl;exact hd hdst
   have ho:=zEj he hne (qK hl) hh;refine⟨.inr ho.v,ho.new,λb k hu=>(ho.upd b k hu).2,?_⟩
   rintro (a | ⟨k,a⟩ | a | ⟨a,b⟩)
   ·exact ho.frz a
   ·exact(ho.upd s k a).1 rfl
   ·exact ho.kil a
   ·exact hne b
  | none =>
   have hno:owns o.op=false:=by
    cases hx:owns o.op with
    | false=>rfl
    | true=>have:=hown hx;rw[hdst] at this;simp at this
   have hnew:ef.new=none:=by
    cases hn:ef.new with
    | none=>rfl
    | some b=>have:=(hnw b hn).1;rw[hdst] at this;simp at this
   rw[zJm hno _ (s+1)] at he;have ho:=zEj he (by omega) (qK hl) hh
   refine⟨.inl rfl,λk hk=>by (rw[hnew] at hk;cases hk),λb k hu=>(ho.upd b k hu).2,?_⟩
   rintro (a | ⟨k,a⟩ | a | ⟨a,b⟩)
   ·exact ho.frz a
   ·exact(ho.upd s k a).1 rfl
   ·exact ho.kil a
   ·rw[hnew] at a;simp at a
 unfold zAS at h;cases hp:pivot ops i with
 | false =>
  rw[hp] at h;simp only at h;unfold qP at h;obtain⟨ef,hg,h⟩:=zA h;obtain⟨_,h⟩:=zG h;injection h with h
  refine⟨ef,st,.inl rfl,h.symm,(Yq hg).2.2.2,λb k hu=>?_,λ_=>rfl,key hg⟩
  rcases YF hg with ⟨_,rfl⟩ | ⟨_,he,_⟩
  ·simp at hu
  ·exact wr he b k hu
 | true =>
  rw[hp] at h;simp only at h;obtain⟨g,hg,h⟩:=zA h;cases g with
  | false =>
   injection h with h;refine⟨{ v:=.d (.tup []) },st,.inl rfl,h.symm,by simp,by simp,λ_=>rfl,λs hd hl hh=>⟨.inr rfl,by simp,by simp,?_⟩⟩
   rintro (a | ⟨k,a⟩ | a | ⟨a,b⟩) <;> simp at a
  | true =>
   simp only at h;unfold YU at h;obtain⟨ef,he,h⟩:=zA h;obtain⟨_,h⟩:=zG h;cases hn:ef.new with
   | none =>
    rw[hn] at h;injection h with h
    exact⟨ef,st,.inl rfl,h.symm,(λb hb=>by rw[hn] at hb;cases hb),wr he,λ_=>rfl,keyE he (λb hb=>by rw[hn] at hb;cases hb)⟩
   | some b =>
    rw[hn] at h;obtain⟨hgd,h⟩:=zG h;injection h with h
    simp only[Ab] at hgd;have hnw:∀b',ef.new=some b'->o.dst.isSome=true/\zn (zg o) b'=true:=λb' hb=>by
     rw[hn] at hb;injection hb with hb;subst hb;exact hgd
    exact⟨ef,_,.inr rfl,h.symm,hnw,wr he,(λhh=>by cases hh),keyE he hnw⟩
theorem Inv.step(hs:Stat ops){L L':List (Oper×Nat)}{st st1:St}(hI:Inv ops L st)(hLo:∀p∈L,ops[p.2]? = some p.1)(hsub:∀p∈L',p∈L){o:Oper}{i:Nat}(hm:(o,i)∈L)(hni:∀o',(o',i) ∉ L')
  (h:zAS E call ops o i st=some st1):Inv ops L' st1:=by
 have ho:ops[i]? = some o:=hLo _ hm;obtain⟨ef,st0,h0,rfl,hnw,hup,hpv,hoff⟩:=step_off hs ho h;intro s hsa;obtain⟨hf,hon⟩:=hI s hsa;obtain⟨k,ok,hok,hkp,hkw,hkd⟩:=anews_spec hsa;refine⟨λp hp hd=>?_,λp hp hmay=>?_⟩
 ·have hfree:=hf p (hsub p hp) hd;have hne:o.dst≠some s:=λe=>hni p.1 (by
   have:=hs.uniq ho (hLo _ (hsub p hp)) e hd;rw[this];exact hp)
  obtain⟨o1,o2,o3,o4⟩:=hoff s hne (λt v _ hv=>hfree.2.1 t v hv) hfree.2.2
  have hfree0:freeRef s st0:=by
   rcases h0 with rfl | rfl
   ·exact hfree
   ·exact hfree.clear _
  exact pres_free hfree0 o1 o2 o3 o4
 ·have honly:=hon p (hsub p hp) hmay;by_cases he:o.dst=some s
  ·
   have hik:i=k:=hs.uniq ho hok he hkd;subst hik;have hok':o=ok:=AY (ho.symm.trans hok);subst hok';have hst:=hpv hkp;subst hst;have hfree:=hf (o,i) hm he;have hsite:zg o=s:=by unfold zg;rw[he];rfl
   refine zGy hfree.only (.inr (.inl he)) (λb hb=>by rw[<-hsite];exact(hnw b hb).2) λb k hu=>?_
   have:=hup b k hu;rw[hkw] at this;cases this
  ·have honly0:onlyAt s st0:=by
    rcases h0 with rfl | rfl
    ·exact honly
    ·exact honly.clear _
   obtain⟨hc1,hb1,hpr⟩:=zBn hmay;have hpo:=hLo _ (hsub p hp);have hpd:p.1.dst.isSome=true:=(hs.plain p.1 (Ag hpo)).1 (by
    unfold zIW at hb1;split at hb1
    ·rename_i c hop;split at hb1
     ·rename_i hcc _;rw[hop];simp[owns,hcc]
     ·cases hb1
    ·cases hb1)
   obtain⟨d,hdd⟩:=Ad.1 hpd;have hnel:s ∉ looks ops o:=by
    refine zJN hpr (Ag hpo) (Ag ho) ?_ (zDi hb1);intro e;refine hni p.1 ?_;have:=hs.uniq ho hpo (by rw[<-e];exact hdd) hdd
    rw[this];exact hp
   obtain⟨o1,o2,o3,_⟩:=hoff s he (λt v ht hv=>honly.1 t v (by rintro rfl;exact hnel ht) hv) honly.2
   exact zGy honly0 (o1.imp id .inr) o2 o3
end
end Go.Am
namespace Go.Am
open Go.Proofs
open Go Go.RowKit
section
variable{P:Program}{E:Env}{call:FuncId->List DV->Option CR}
structure Indep(ops:List Oper)(y x:Oper×Nat):Prop where
 py:pivot ops y.2=false
 px:pivot ops x.2=false
 pair:Pair ops y.1 x.1
theorem bubble{ops:List Oper}(hs:Stat ops):∀(L1:List (Oper×Nat)) {x:Oper×Nat} {L2:List (Oper×Nat)} {st stf:St},(∀p∈L1++x :: L2,ops[p.2]? = some p.1)->(L1++x :: L2).Pairwise (λp q=>p.2<q.2)->Inv ops (L1++x :: L2) st ->
  (∀y∈L1,Indep ops y x)->zGv E call ops (L1++x :: L2) st=some stf->zGv E call ops (x :: (L1++L2)) st=some stf
 | [],x,L2,st,stf,_,_,_,_,h=>h
 | y :: L1,x,L2,st,stf,hLo,hsort,hI,hind,h=>by
  obtain⟨oy,iy⟩:=y;obtain⟨ox,ix⟩:=x;simp only[Br,zGv] at h;obtain⟨st1,h1,h⟩:=zA h;have hsort':=(AP.1 hsort).2;have hlt:=(AP.1 hsort).1;have hI1:Inv ops (L1++(ox,ix) :: L2) st1:=hI.step hs hLo (λp hp=>AN _ hp) (Av) (λo' hm=>by have:=hlt _ hm;simp at this) h1
  have ih:=bubble hs L1 (λp hp=>hLo p (AN _ hp)) hsort' hI1 (λz hz=>hind z (AN _ hz)) h
  simp only[zGv] at ih;obtain⟨st2,h2,h3⟩:=zA ih;have hi:=hind (oy,iy) Av;have hpy:pivot ops iy=false:=hi.py;have hpx:pivot ops ix=false:=hi.px;have hoy:ops[iy]? = some oy:=hLo (oy,iy) Av;have hox:ops[ix]? = some ox:=hLo (ox,ix) (by simp)
  have s1:qP E call ops oy st=some st1:=by have:=h1;unfold zAS at this;rw[hpy] at this;exact this
  have s2:qP E call ops ox st1=some st2:=by have:=h2;unfold zAS at this;rw[hpx] at this;exact this
  obtain⟨st1',t1,t2⟩:=swap hi.pair (hI.know hs (o:=oy) (i:=iy) Av hoy hpy) (hI.know hs (o:=ox) (i:=ix) (by simp) hox hpx) s1 s2
  have d1:zAS E call ops ox ix st=some st1':=by unfold zAS;rw[hpx];exact t1
  have d2:zAS E call ops oy iy st1'=some st2:=by unfold zAS;rw[hpy];exact t2
  simp only[Br,zGv,d1,zL,d2];exact h3
variable{base:Nat}{S:Nat->Prop}{φ:Nat->Option Nat}{st:St}{a:Act}{w:World}
theorem stepN_S{ops:List Oper}{o:Oper}(hg:jv ops o st.tm=some true)(hf:owns o.op=true->freeRef (zg o) st){st1:St}(h:qP E call ops o st=some st1):YU E call o st=some st1:=by
 unfold qP at h;obtain⟨ef,he,h⟩:=zA h;obtain⟨_,h⟩:=zG h;injection h with h
 rcases YF he with ⟨hb,_⟩ | ⟨_,hee,hc⟩
 ·rw[hg] at hb;cases hb
 ·obtain⟨_,h1,_,h3⟩:=Yx hc;unfold YU;rw[hee];simp only[zL,h1,zc];cases hn:ef.new with
  | none=>simp only[h]
  | some b =>
   obtain⟨h4,h5⟩:=h3 b hn;have hfr:=hf ((Qq hee).new (by simp[hn]))
   simp only[h4,h5,BB,zc,clear_free hfr,h]
theorem Inv.start(ops:List Oper)(L:List (Oper×Nat))(st:St):Inv ops L (clearL (anews ops) st):=λs hs =>
 ⟨λ_ _ _=>qE _ st s (.inl hs),λ_ _ _=>(qE _ st s (.inl hs)).only⟩
theorem Rel.clearL(bs:List Nat):∀{φ:Nat->Option Nat} {st:St},Rel E base S φ st a w->∃φ',Rel E base S φ' (Am.clearL bs st) a w:=by
 induction bs with
 | nil=>exact λh=>⟨_,h⟩
 | cons b bs ih=>exact λh=>ih (h.clear b)
theorem Qy{ops:List Oper}(hb:qL ops=true){j:Nat}{o:Oper}(ho:ops[j]? = some o){e:Edge}(he:e∈o.after.toList)(hbd:AJ .any e=true):e.on<j:=by
 unfold qL at hb;have hm:(o,j)∈ops.zipIdx:=by rw[Ai];exact⟨j,by simp[As,ho]⟩
 have h1:=Aj.1 hb (o,j) hm;have h2:=Aj.1 h1 e he;simpa[hbd] using h2
theorem clash_pair{ops:List Oper}(hs:Stat ops){i j:Nat}{a b:Oper}(ha:ops[i]? = some a)(hb:ops[j]? = some b)(hij:i<j)(hc:clash ops a b=false):Pair ops a b:=by
 unfold clash at hc;simp only[Bool.or_eq_false_iff] at hc;obtain⟨⟨⟨⟨c1,c2⟩,_⟩,c4⟩,c5⟩:=hc;have hit:∀{x y:Oper},hits ops x y=false->∀d,x.dst=some d->d ∉ looks ops y:=by intro x y h d hd;unfold hits at h;rw[hd] at h;simpa using h
 refine⟨Ag ha,Ag hb,(hs.plain a (Ag ha)).1,(hs.plain b (Ag hb)).1,(hs.ord i j a b hij ha hb).1,hit c1,hit c2,λhl=>?_,λhl=>?_⟩
 ·rw[hl] at c4;simpa using c4
 ·rw[hl] at c5;simpa using c5
theorem zI7(hD:DOK P E)(hc:JC P E call){ops:Array Oper}(hs:Stat ops.toList){stf:St}{Q:Exit->Act->World->Prop} :
  ∀(fuel:Nat) (listed:Array Bool) (L:List (Oper×Nat)) {S:Nat->Prop} {φ:Nat->Option Nat} {st:St} {a:Act} {w:World},
   listed.size=ops.size->(∀i,i<ops.size->(listed.getD i true=false ↔ ∃o,(o,i)∈L))->(∀p∈L,ops.toList[p.2]? = some p.1)->L.Pairwise (λp q=>p.2<q.2) ->
   (∀(j:Nat) o,ops.toList[j]? = some o->(∀o',(o',j) ∉ L)->∀e∈o.after.toList,AJ .any e=true->∀o',(o',e.on) ∉ L)->Inv ops.toList L st->L.length<=fuel ->
   Rel E base S φ st a w->zGv E call ops.toList L st=some stf->(∀S' φ' a' w',Rel E base S' φ' stf a' w'->Grow base S S' w w'->Q .normal a' w')->wpAny P .any ops Q fuel listed a w:=by
 intro fuel;have noReady:∀{listed:Array Bool} {L:List (Oper×Nat)},L=[]->(∀i,i<ops.size->(listed.getD i true=false ↔ ∃o,(o,i)∈L))->Bx .any ops listed=[]:=by intro listed L hL h;rw[List.eq_nil_iff_forall_not_mem];intro i hi;obtain⟨h0,o,ho,_⟩:=mem_ready.1 hi;have hlt:i<ops.size:=(AE.1 ho).1;obtain⟨o',hm⟩:=(h i hlt).1 h0;rw[hL] at hm;simp at hm
 induction fuel with
 | zero =>
  intro listed L S φ st a w _ hli _ _ _ _ hlen hR hseq hQ;have hL:L=[]:=Al (by omega)
  refine⟨noReady hL hli,?_⟩;subst hL;simp only[zGv,Ae] at hseq;subst hseq;exact hQ S φ a w hR Grow.refl
 | succ fuel ih =>
  intro listed L S φ st a w hsz hli hLo hsort hcl hI hlen hR hseq hQ;have getD2:∀{j:Nat},j<ops.size->(listed.getD j false=true ↔ ¬listed.getD j true=false):=λ{j} hj=>by
   have:j<listed.size:=by omega
   simp[this]
  refine⟨λhr=>?_,λi hi=>?_⟩
  ·
   cases L with
   | nil =>
    simp only[zGv,Ae] at hseq;subst hseq;exact hQ S φ a w hR Grow.refl
   | cons p L =>
    obtain⟨o,i⟩:=p;have ho:ops.toList[i]? = some o:=hLo (o,i) Av;have hlt:i<ops.size:=by simpa using(Ac.1 ho).1
    have hmem:i∈Bx .any ops listed:=by
     refine mem_ready.2 ⟨(hli i hlt).2 ⟨o,Av⟩,o,by simpa using ho,λe he hb=>?_⟩
     have hlt2:=Qy hs.back ho (by simpa using he) hb
     rw[getD2 (by omega),hli e.on (by omega)]
     rintro⟨o',hm⟩;rcases Au.1 hm with hm | hm
     ·injection hm with _ hm;omega
     ·have:=(AP.1 hsort).1 _ hm;simp at this;omega
    rw[hr] at hmem;cases hmem
  ·obtain⟨h0,o,hoi,hall⟩:=mem_ready.1 hi;have hlt:i<ops.size:=(AE.1 hoi).1;have ho:ops.toList[i]? = some o:=by simpa using hoi
   obtain⟨o1,hm⟩:=(hli i hlt).1 h0;have:o1=o:=by
    have:=hLo _ hm;rw[ho] at this;injection this with this;exact this.symm
   subst this;obtain⟨L1,L2,rfl⟩:=List.append_of_mem hm;have hlt1:∀y∈L1,y.2<i:=λy hy=>(Bj.1 hsort).2.2 y hy (o1,i) Av
   have hgt2:∀y∈L2,i<y.2:=λy hy=>(AP.1 (Bj.1 hsort).2.1).1 y hy
   have hanc:∀k,((qu ops.toList []).getD i 0).testBit k=true->∀o',(o',k) ∉ L1++(o1,i) :: L2:=by
    intro k hk;refine anc_done hs.back (λk=>∀o',(o',k) ∉ L1++(o1,i) :: L2) (λj oj hoj hd e he hb=>hcl j oj hoj hd e he hb) i o1 ho (λe he hb=>?_) k hk
    have hlt2:=Qy hs.back ho he hb;have:=hall e (by simpa using he) hb
    intro o' hm';rw[getD2 (by omega)] at this
    exact this ((hli e.on (by omega)).2 ⟨o',hm'⟩)
   have hind:∀y∈L1,Indep ops.toList y (o1,i):=λy hy=>by
    have hyi:=hlt1 y hy;have hyo:=hLo y (by simp[hy])
    have hnot:((qu ops.toList []).getD i 0).testBit y.2=false:=by
     cases h:((qu ops.toList []).getD i 0).testBit y.2 with
     | false=>rfl
     | true=>exact absurd (by simp[hy]) (hanc y.2 h y.1)
    have hcls:clash ops.toList y.1 o1=false:=by
     rcases (hs.ord y.2 i y.1 o1 hyi hyo ho).2 with h | h
     ·exact h
     ·rw[hnot] at h;cases h
    have hn:i<ops.toList.length:=by simpa using hlt
    refine⟨?_,?_,clash_pair hs hyo ho hyi hcls⟩
    ·cases hp:pivot ops.toList y.2 with
     | false=>rfl
     | true =>
      unfold pivot at hp;have:=Aj.1 hp i (AQ.2 hn);simp only[AI,beq_iff_eq] at this;rcases this with e | this
      ·omega
      ·rw[if_neg (by omega),hnot] at this;cases this
    ·cases hp:pivot ops.toList i with
     | false=>rfl
     | true =>
      unfold pivot at hp;have:=Aj.1 hp y.2 (AQ.2 (by omega))
      simp only[AI,beq_iff_eq] at this;rcases this with e | this
      ·omega
      ·rw[if_pos hyi,hnot] at this;cases this
   have hb:=bubble (E:=E) (call:=call) hs L1 hLo hsort hI hind hseq;simp only[zGv] at hb;obtain⟨st1,h1,h2⟩:=zA hb;have hni:∀o',(o',i) ∉ L1++L2:=λo' hm'=>by
    rcases An.1 hm' with hm' | hm'
    ·have:=hlt1 _ hm';simp at this
    ·have:=hgt2 _ hm';simp at this
   have hsub:∀p∈L1++L2,p∈L1++(o1,i) :: L2:=λp hp=>by
    rcases An.1 hp with hp | hp
    ·exact AA _ hp
    ·exact Aw _ (AN _ hp)
   have hI1:Inv ops.toList (L1++L2) st1:=hI.step hs hLo hsub (by simp) hni h1
   have next:∀{S1:Nat->Prop} {φ1:Nat->Option Nat} {a1:Act} {w1:World},Rel E base S1 φ1 st1 a1 w1->Grow base S S1 w w1->wpAny P .any ops Q fuel (listed.setIfInBounds i true) a1 w1:=by
    intro S1 φ1 a1 w1 hR1 hG1;refine ih (listed.setIfInBounds i true) (L1++L2) (by simpa using hsz) (λj hj=>?_) (λp hp=>hLo p (hsub p hp)) ?_ (λj oj hoj hd e he hbd o' hm'=>?_) hI1 (by simp at hlen ⊢;omega) hR1 h2 (λS' φ' a' w' k1 k2=>hQ S' φ' a' w' k1 (hG1.trans k2))
    ·by_cases e:i=j
     ·subst e;constructor
      ·intro h;rw[Array.getD_eq_getD_getElem?] at h;simp[show i<listed.size by omega] at h
      ·rintro⟨o',hm'⟩;exact absurd hm' (hni o')
     ·rw[getD_set_ne true e,hli j hj];constructor
      ·rintro⟨o',hm'⟩;refine⟨o',?_⟩;rcases An.1 hm' with hm' | hm'
       ·exact AA _ hm'
       ·rcases Au.1 hm' with hm' | hm'
        ·injection hm' with _ hm';exact absurd hm'.symm e
        ·exact Aw _ hm'
      ·rintro⟨o',hm'⟩;exact⟨o',hsub _ hm'⟩
    ·refine BG ?_ hsort;exact BK (List.sublist_cons_self _ _) _
    ·by_cases eji:j=i
     ·subst eji;rw[ho] at hoj;injection hoj with hoj;subst hoj
      have hlt2:=Qy hs.back ho he hbd;have:=hall e (by simpa using he) hbd
      rw[getD2 (by omega)] at this
      exact this ((hli e.on (by omega)).2 ⟨o',hsub _ hm'⟩)
     ·refine hcl j oj hoj (λo'' hm''=>?_) e he hbd o' (hsub _ hm')
      refine hd o'' ?_;rcases An.1 hm'' with hm'' | hm''
      ·exact AA _ hm''
      ·rcases Au.1 hm'' with hm'' | hm''
       ·injection hm'' with _ hm'';omega
       ·exact Aw _ hm''
   unfold wpOp;simp only[hoi];have stepTo:(∃g,jv ops.toList o1 st.tm=some g/\((g=true/\YU E call o1 st=some st1)\/(g=false/\st1={ st with tm:=j5 st.tm o1.dst (.d (.tup [])) }))):=by
    unfold zAS at h1;cases hp:pivot ops.toList i with
    | true =>
     rw[hp] at h1;obtain⟨g,hg,h1⟩:=zA h1;cases g with
     | true=>exact⟨true,hg,.inl ⟨rfl,h1⟩⟩
     | false=>injection h1 with h1;exact⟨false,hg,.inr ⟨rfl,h1.symm⟩⟩
    | false =>
     rw[hp] at h1;simp only at h1;have hk:=hI.know hs (o:=o1) (i:=i) (by simp) ho hp
     cases hg:jv ops.toList o1 st.tm with
     | none=>unfold qP zBY at h1;rw[hg] at h1;cases h1
     | some g =>
      cases g with
      | true=>exact⟨true,rfl,.inl ⟨rfl,stepN_S hg hk.free h1⟩⟩
      | false =>
       unfold qP zBY at h1;rw[hg] at h1;simp only[zL,Option.isNone_none,Bool.true_or,zc,Ae] at h1;exact⟨false,rfl,.inr ⟨rfl,h1.symm⟩⟩
   obtain⟨g,hg,hst⟩:=stepTo;have hw:=zCC hR.tm hg;rcases hst with ⟨rfl,hst⟩ | ⟨rfl,rfl⟩
   ·rw[hw];refine .inl (BC (λa' w' hp=>?_) (zEF hD hc hR hst))
    obtain⟨S1,φ1,hR1,hG1⟩:=hp;exact next hR1 hG1
   ·rw[hw];exact next (hR.skip o1.dst) Grow.refl
theorem zDk(hD:DOK P E)(hm:P.follows .mixedOrders=true)(hc:JC P E call){id:Nat}{ops:Array Oper}{draw:Bool}{K:St->Option CR}{r:CR}{Q:Exit->Act->World->Prop}(h:Je E call ops.toList draw st K=some r)
  (hR:Rel E base S φ st a w) (hK:∀st' S' φ' a' w',K st'=some r->Rel E base S' φ' st' a' w'->Grow base S S' w w'->Q .normal a' w'):(Code.region id ops draw).wp P Q a w:=by
 cases draw with
 | false =>
  refine wp_region ?_;have:=qB hD hc (Q:=Q) ops.toList 0 (by simp) (Nat.zero_le _) h hR hK
  rw[List.range_eq_range'];simpa using this
 | true =>
  refine wp_region_any hm ?_;simp only[Je] at h;obtain⟨hok,h⟩:=zG h;have hs:=stat_of hok;obtain⟨stf,hseq,hKf⟩:=zAl ops.toList.zipIdx _ h;obtain⟨hRd,hGd⟩:=hR.drew;obtain⟨φ1,hR1⟩:=hRd.clearL (anews ops.toList);have hz:∀p∈ops.toList.zipIdx,ops.toList[p.2]? = some p.1:=λp hp=>by obtain⟨k,hk⟩:=Ai.1 hp;simp only[As,Ba] at hk;obtain⟨x,hx,e⟩:=hk;subst e;simpa using hx
  refine zI7 (Q:=Q) hD hc hs ops.size (Bt ops.size false) ops.toList.zipIdx (by simp) (λi hi=>?_) hz ?_ (λj o ho hd=>?_) (Inv.start _ _ st) (by simp) hR1 hseq (λS' φ' a' w' k1 k2=>hK stf S' φ' a' w' hKf k1 (hGd.trans k2))
  ·constructor
   ·intro _;exact⟨ops[i],by rw[Ai];exact⟨i,by simp[As,hi]⟩⟩
   ·intro _;simp[hi]
  ·rw[List.pairwise_iff_getElem];intro i j hi hj hij;simp;exact hij
  ·exact absurd (by rw[Ai];exact⟨j,by simp only[As,ho];simp⟩) (hd o)
end
end Go.Am
namespace Go.Am
open Go.Proofs
open Go Go.RowKit
def zBE:Ex->Exit
 | .normal=>.normal
 | .exit id=>.exit id
 | .ret=>.ret
section
variable{P:Program}{E:Env}{call:FuncId->List DV->Option CR}{base:Nat}
theorem YE(hD:DOK P E)(hm:P.follows .mixedOrders=true)(hc:JC P E call){n:Nat}{r:CR}:∀(c:Code) {K:Ex->St->Option CR} {S:Nat->Prop} {φ:Nat->Option Nat} {st:St} {a:Act} {w:World} {Q:Exit->Act->World->Prop},
  exec E n call c st K=some r->Rel E base S φ st a w->(∀ex st' S' φ' a' w',K ex st'=some r->Rel E base S' φ' st' a' w'->Grow base S S' w w'->Q (zBE ex) a' w')->c.wp P Q a w:=by
 intro c;induction c with
 | skip=>intro K S φ st a w Q h hR hK;exact wp_skip (hK .normal st S φ a w h hR Grow.refl)
 | label l=>intro K S φ st a w Q h hR hK;exact wp_label (hK .normal st S φ a w h hR Grow.refl)
 | region id ops draw=>intro K S φ st a w Q h hR hK;exact zDk hD hm hc h hR λst' S' φ' a' w' k1 k2 k3=>hK .normal st' S' φ' a' w' k1 k2 k3
 | seq x y ihx ihy =>
  intro K S φ st a w Q h hR hK;refine wp_seq (ihx (K:=QR (λst'=>exec E n call y st' K) K) h hR λex st' S' φ' a' w' k1 k2 k3=>?_)
  cases ex with
  | normal=>exact ihy k1 k2 λex st2 S2 φ2 a2 w2 j1 j2 j3=>hK ex st2 S2 φ2 a2 w2 j1 j2 (k3.trans j3)
  | exit id=>exact hK (.exit id) st' S' φ' a' w' k1 k2 k3
  | ret=>exact hK .ret st' S' φ' a' w' k1 k2 k3
 | cond c x y ihx ihy =>
  intro K S φ st a w Q h hR hK;simp only[exec] at h;obtain⟨v,hv,h⟩:=zA h;obtain⟨t,ht,h⟩:=zA h;have hc:=zF8 ht (hR.ev c v hv);cases t with
  | true=>exact wp_cond_true hc (ihx h hR hK)
  | false=>exact wp_cond_false hc (ihy h hR hK)
 | block id c ih =>
  intro K S φ st a w Q h hR hK;refine wp_block (ih (K:=Qu id K) h hR λex st' S' φ' a' w' k1 k2 k3=>?_)
  cases ex with
  | normal=>exact hK .normal st' S' φ' a' w' k1 k2 k3
  | ret=>exact hK .ret st' S' φ' a' w' k1 k2 k3
  | exit i =>
   simp only[Qu] at k1;simp only[zBE,Exit.inBlock];split at k1
   ·rename_i e;rw[if_pos e];exact hK .normal st' S' φ' a' w' k1 k2 k3
   ·rename_i e;rw[if_neg e];exact hK (.exit i) st' S' φ' a' w' k1 k2 k3
 | scope c ih =>
  intro K S φ st a w Q h hR hK;refine wp_scope_straight (ih h hR λex st' S' φ' a' w' k1 k2 k3=>?_)
  cases ex with
  | normal=>exact hK .normal st' S' φ' a' w' k1 k2 k3
  | ret=>exact hK .ret st' S' φ' a' w' k1 k2 k3
  | exit i=>exact hK (.exit i) st' S' φ' a' w' k1 k2 k3
 | loop c ih =>
  intro K S φ st a w Q h hR hK;refine wp_loop_rounds n ?_;have key:∀(m:Nat) {S:Nat->Prop} {φ:Nat->Option Nat} {st:St} {a:Act} {w:World},zAE (exec E n call c) m st K=some r->Rel E base S φ st a w ->
    (∀ex st' S' φ' a' w',K ex st'=some r->Rel E base S' φ' st' a' w'->Grow base S S' w w'->Q (zBE ex) a' w')->Code.rounds P c Q m a w:=by
   intro m;induction m with
   | zero=>intro S φ st a w h _ _;simp[zAE] at h
   | succ m ihm =>
    intro S φ st a w h hR hK;simp only[zAE] at h;refine ih (K:=QR (λst'=>zAE (exec E n call c) m st' K) K) h hR λex st' S' φ' a' w' k1 k2 k3=>?_
    cases ex with
    | normal=>exact ihm k1 k2 λex st2 S2 φ2 a2 w2 j1 j2 j3=>hK ex st2 S2 φ2 a2 w2 j1 j2 (k3.trans j3)
    | exit id=>exact hK (.exit id) st' S' φ' a' w' k1 k2 k3
    | ret=>exact hK .ret st' S' φ' a' w' k1 k2 k3
  exact key n h hR hK
 | exit id=>intro K S φ st a w Q h hR hK;exact wp_exit (hK (.exit id) st S φ a w h hR Grow.refl)
 | ret=>intro K S φ st a w Q h hR hK;exact wp_ret (hK .ret st S φ a w h hR Grow.refl)
 | _=>intros;rename_i h _ _;simp[exec] at h
theorem zIn(hD:DOK P E){S:Nat->Prop}{φ:Nat->Option Nat}{st:St}{a:Act}{w:World}(hR:Rel E base S φ st a w){v:ResultVar}{x:AV}(h:zIG E st v=some x) :
  ∃u,(match v with | .tmp t=>pure (a.tmps.getD t undef) | .cell b t=>do loadVar t (<-asAddr (a.tmps.getD b undef)):Sem Value).run P w=.ok u w/\RAV E.L S φ w x u:=by
 cases v with
 | tmp t =>
  obtain⟨u,hu,hr⟩:=hR.tm t x h;exact⟨u,by simp[hu],hr⟩
 | cell b t =>
  simp only[zIG] at h;obtain⟨p,hp,h⟩:=zA h;obtain⟨ef,he,h⟩:=zA h;injection h with h
  obtain⟨u,hu,hr⟩:=hR.tm b p hp;obtain⟨y,z,rfl,hz,hyz⟩:=qo hD hR hr he;subst h;refine⟨z,?_,hyz⟩;have e:a.tmps.getD b undef=u:=by simp[hu]
  simp only[e];cases u with
  | pointer q =>
   cases q with
   | none=>simp[Bb,A8] at hz
   | some q =>
    simp only[Bb,A8,Ak,Aq,Af] at hz;simp only[asAddr,Ak,Aq,Af,hz]
  | _=>simp[Bb,A8] at hz
theorem zDT(hD:DOK P E){S:Nat->Prop}{φ:Nat->Option Nat}{st:St}{a:Act}{w:World}(hR:Rel E base S φ st a w):∀(rs:List ResultVar) (xs:List AV),zDl E st rs=some xs ->
  ∃us:List Value,(rs.mapM λv=>(match v with | .tmp t=>pure (a.tmps.getD t undef) | .cell b t=>do loadVar t (<-asAddr (a.tmps.getD b undef)):Sem Value)).run P w=.ok us w/\ListOK E.L S φ w xs us
 | [],xs,h=>by
  simp[zDl] at h;subst h;exact⟨[],rfl,rfl,λi a=>by simp at a⟩
 | v :: rs,xs,h=>by
  simp only[zDl] at h;obtain⟨x,hx,h⟩:=zA h;obtain⟨ys,hys,h⟩:=zA h;injection h with h;subst h
  obtain⟨u,hu,hr⟩:=zIn hD hR hx;obtain⟨us,hus,hl⟩:=zDT hD hR rs ys hys;refine⟨u :: us,?_,by simp[hl.1],λi a b=>?_⟩
  ·rw[List.mapM_cons,Ak,hu,Af,Ak,hus,Af];rfl
  ·cases i with
   | zero=>exact hr
   | succ i=>exact hl.2 i (by simpa using a) (by simpa using b)
end
end Go.Am
namespace Go.Am
open Go.Proofs
open Go Go.RowKit
section
variable{P:Program}{E:Env}{base:Nat}
theorem zG3:∀{xs:List DV},zIK xs=true->∀i (h:i<xs.length),xs[i].isTup=false
 | [],_,i,h=>by simp at h
 | x :: xs,hn,i,h=>by
  simp only[zIK,Ab,Ap] at hn;cases i with
  | zero=>exact hn.1
  | succ i=>exact zG3 hn.2 i (by simpa using h)
theorem zIk{fn:Func}{a:Act}{w:World}{us:List Value}
  (h:(fn.results.toList.mapM λv=>(match v with | .tmp t=>pure (a.tmps.getD t undef) | .cell b t=>do loadVar t (<-asAddr (a.tmps.getD b undef)):Sem Value)).run P w=.ok us w) :
  (results fn a.tmps).run P w=.ok (match us with | [u]=>u | us=>.tuple us.toArray) w:=by
 have e:results fn a.tmps=(do
   let vs <-fn.results.mapM (λv=>(match v with | .tmp t=>pure (a.tmps.getD t undef) | .cell b t=>do loadVar t (<-asAddr (a.tmps.getD b undef)):Sem Value))
   pure (if h:vs.size=1 then vs[0] else .tuple vs):Sem Value):=rfl
 rw[e,Ak,Array.mapM_eq_mapM_toList];simp only[Sem.run_map,h,Af,Aq]
 match us with
 | []=>rfl
 | [u]=>rfl
 | _ :: _ :: _=>simp
theorem zFw{S S':Nat->Prop}{φ:Nat->Option Nat}{st:St}{a:Act}{w w':World}(hR:Rel E w.heap.size S' φ st a w')(hG:Grow w.heap.size S S' w w')(ss:List Nat) :
  (∀b,S b->Plus S' φ st.hp ss b)/\(∀b,Plus S' φ st.hp ss b->S b\/w.heap.size<=b)/\(∀b,Plus S' φ st.hp ss b->b<w'.heap.size):=by
 refine⟨λb hb=>.inl (hG.sub b hb),λb hb=>?_,λb hb=>?_⟩
 ·rcases hb with hb | ⟨s,_,ob,hob,hφ⟩
  ·exact hG.new b hb
  ·obtain⟨c,hc,h1,_⟩:=hR.blk s ob hob;rw[hφ] at hc;injection hc with hc;subst hc
   exact .inr h1
 ·rcases hb with hb | ⟨s,_,ob,hob,hφ⟩
  ·exact hR.lt b hb
  ·obtain⟨c,hc,_,h2,_⟩:=hR.blk s ob hob;rw[hφ] at hc;injection hc with hc;subst hc
   exact h2.lt
theorem Jz(hD:DOK P E){S S':Nat->Prop}{φ:Nat->Option Nat}{st:St}{a:Act}{w w':World}(hR:Rel E w.heap.size S' φ st a w')(hG:Grow w.heap.size S S' w w'){fresh:Bool}{fn:Func}{r:CR}(h:fin E fresh fn st=some r) :
  a.defers=[]/\∃v,(results fn a.tmps).run P w'=.ok v w'/\zAa E S w r v w':=by
 refine⟨hR.dfr,?_⟩;unfold fin at h;obtain⟨xs,hxs,h⟩:=zA h;obtain⟨us,hus,hl⟩:=zDT hD hR _ _ hxs;have hrun:=zIk hus;have many:∀{ds:List DV},Ji st.hp xs=some ds->zIK ds=true->zAa E S w (.val (.tup ds)) (.tuple us.toArray) w':=by
  intro ds hds hnt;obtain⟨h1,h2⟩:=zAi hR xs us ds hds hl;obtain⟨p1,p2,p3⟩:=zFw hR hG (ja st.hp xs);refine⟨_,hG.below,p1,p2,p3,us,rfl,by rw[hl.1,h1],λi a b=>?_⟩
  exact RV.rd (zG3 hnt i a) (h2 i a b)
 split at h
 ·rename_i v;obtain⟨u,rfl⟩:∃u,us=[u]:=Bd.1 (by simpa using hl.1)
  have hv:=hl.2 0 (by simp) (by simp)
  simp only[Be] at hv;refine⟨u,hrun,?_⟩;cases fresh with
  | false =>
   simp only at h;obtain⟨x,hx,h⟩:=zA h;obtain⟨hnt,h⟩:=zG h;injection h with h;subst h
   obtain⟨p1,p2,p3⟩:=zFw hR hG (sites st.hp zx v);exact⟨_,hG.below,p1,p2,p3,snapV hR hx hv⟩
  | true =>
   simp only at h;unfold zAX at h;split at h
   ·injection h with h;subst h
    obtain⟨p1,p2,p3⟩:=zFw hR hG [];exact⟨_,hG.below,p1,p2,p3,RV.mono (show RV E.L S' w' .nl u from hv) (λb hb=>.inl hb) λ_ _=>rfl⟩
   ·rename_i b off len sz;split at h
    case h_2=>simp at h
    rename_i s ys hsl;split at h
    case isFalse=>simp at h
    rename_i hcond;obtain⟨rfl,rfl,rfl⟩:=hcond;injection h with h;subst h
    obtain⟨cb,hφ,hb,hrb,hfz⟩:=hR.blk b _ hsl;refine⟨S',hG.below,hG.sub,hG.new,hR.lt,cb,hb,λhh=>by simpa using hfz.1 hh,λφ'=>hrb,λφ' s' hs'=>?_⟩
    rcases RAV.own hv with ⟨cb',c,hφ',hc,hroom,rfl⟩ | ⟨a',h0,rfl⟩
    ·have e:cb=cb':=AY (hφ.symm.trans hφ');subst e;refine⟨?_,rfl⟩;have:=RA.own (L:=E.L) (S:=S') (φ:=φ') (w:=w') s' 0 ys.length s cb c hs' hc hroom;simpa[vcs,AW] using this
    ·refine⟨?_,rfl⟩;rw[h0];exact .own0 s' 0 s a'
   ·simp at h
 ·rename_i vs hne;obtain⟨ds,hds,h⟩:=zA h;obtain⟨hg,h⟩:=zG h;simp only[Ab] at hg;injection h with h;subst h
  refine⟨.tuple us.toArray,?_,many hds hg.2⟩;rw[hrun]
  match us,hl.1 with
  | [],_=>rfl
  | [u],hlen =>
   exfalso;obtain⟨x,rfl⟩:∃x,xs=[x]:=Bd.1 (by simpa using hlen.symm)
   exact hne x rfl
  | _ :: _ :: _,_=>rfl
theorem zJl{S:Nat->Prop}{w:World}{φ:Nat->Option Nat}{fn:Func}{ds:List DV}{vals:List Value}(hlen:vals.length=ds.length)(hrv:∀i (h:i<ds.length) (h':i<vals.length),RV E.L S w ds[i] vals[i])(hn:ds.length<=fn.ntmps)
  (t:Nat) (v:AV) (hv:(entry fn ds).tm[t]? = some v):∃u,(vals.toArray++Bt (fn.ntmps - vals.toArray.size) undef)[t]? = some u/\RAV E.L S φ w v u:=by
 simp only[entry] at hv;by_cases ht:t<ds.length
 ·rw[List.getElem?_append_left (by simpa using ht)] at hv
  simp only[AS,Ah ht,AH,Ae] at hv;subst hv;refine⟨vals[t]'(by omega),?_,hrv t ht (by omega)⟩
  rw[Array.getElem?_append_left (by simp;omega)]
  simp[show t<vals.length by omega]
 ·rw[List.getElem?_append_right (by simp;omega)] at hv
  simp only[List.length_map,List.getElem?_replicate] at hv;split at hv
  ·injection hv with hv;subst hv
   refine⟨undef,?_,trivial⟩;rw[Array.getElem?_append_right (by simp;omega)]
   simp[Array.getElem?_replicate];omega
  ·cases hv
structure EnvOK(P:Program)(E:Env):Prop where
 D:DOK P E
 mixed:P.follows .mixedOrders=true
 F:∀f fn,E.F f=some fn->P.funcs[f]? = some fn/\(fn.name == "runtime.NumGoroutine")=false
 orc:∀f g,E.orc f=some g->JC P E λf' ds=>if f'=f then g ds else none
end
end Go.Am
namespace Go.Am
open Go.Proofs
open Go Go.RowKit
mutual
def zrd(L:Nat->List Nat):DV->List Value->Bool
 | .bool b,cs=>match cs with | [.bool c]=>b == c | _=>false
 | .int k n,cs=>match cs with | [.int j m]=>k == j && n == m | _=>false
 | .flt k n,cs=>match cs with | [.float j m]=>k == j && n == m | _=>false
 | .cpx k x y,cs=>match cs with | [.complex j u v]=>k == j && x == u && y == v | _=>false
 | .str s,cs=>match cs with | [.string t]=>s.size == 0 && t.size == 0 | _=>false
 | .nl,cs=>match cs with | [.slice none 0 0]=>true | _=>false
 | .nilFn,cs=>match cs with | [.nilFunc]=>true | _=>false
 | .nilPtr,cs=>match cs with | [.pointer none]=>true | _=>false
 | .nilMp,cs=>match cs with | [.map none]=>true | _=>false
 | .nilIf,cs=>match cs with | [.nilIface]=>true | _=>false
 | .agg tag fs,cs=>zrdL L (L tag) fs cs
 | _,_=>false
def zrdL(L:Nat->List Nat):List Nat->List DV->List Value->Bool
 | [],[],[]=>true
 | n :: ns,x :: xs,cs=>decide (n<=cs.length) && zrd L x (cs.take n) && zrdL L ns xs (cs.drop n)
 | _,_,_=>false
end
section
variable{L:Nat->List Nat}
theorem byte_empty{s t:ByteArray}(h:s.size=0)(k:t.size=0):s=t:=by obtain⟨x⟩:=s;obtain⟨y⟩:=t;have hx:x=#[]:=A6 h;have hy:y=#[]:=A6 k;rw[hx,hy]
mutual
theorem zGf:∀(x:DV) (cs:List Value),zrd L x cs=true->∀S w,RD L S w x cs
 | .bool b,cs,h,S,w=>by simp only[zrd] at h;split at h <;> simp at h;subst h;exact .bool _
 | .int k n,cs,h,S,w=>by
  simp only[zrd] at h;split at h
  ·simp only[Ab,beq_iff_eq] at h;rw[h.1,h.2];exact .int _ _
  ·simp at h
 | .flt k n,cs,h,S,w=>by
  simp only[zrd] at h;split at h
  ·simp only[Ab,beq_iff_eq] at h;rw[h.1,h.2];exact .flt _ _
  ·simp at h
 | .cpx k a b,cs,h,S,w=>by
  simp only[zrd] at h;split at h
  ·simp only[Ab,beq_iff_eq] at h;rw[h.1.1,h.1.2,h.2];exact .cpx _ _ _
  ·simp at h
 | .str s,cs,h,S,w=>by
  simp only[zrd] at h;split at h
  ·simp only[Ab,beq_iff_eq] at h;rw[byte_empty h.1 h.2];exact .str _
  ·simp at h
 | .nl,cs,h,S,w=>by simp only[zrd] at h;split at h <;> simp at h;exact .nl _
 | .nilFn,cs,h,S,w=>by simp only[zrd] at h;split at h <;> simp at h;exact .nilFn
 | .nilPtr,cs,h,S,w=>by simp only[zrd] at h;split at h <;> simp at h;exact .nilPtr
 | .nilMp,cs,h,S,w=>by simp only[zrd] at h;split at h <;> simp at h;exact .nilMp
 | .nilIf,cs,h,S,w=>by simp only[zrd] at h;split at h <;> simp at h;exact .nilIf
 | .agg tag fs,cs,h,S,w=>by
  simp only[zrd] at h;obtain⟨css,h1,h2,h3,h4⟩:=zED (L tag) fs cs h S w;rw[h1];exact .agg tag fs css h2 h3 h4
 | .sl _ _,cs,h,S,w=>by simp[zrd] at h
 | .fn _ _ _,cs,h,S,w=>by simp[zrd] at h
 | .dp _,cs,h,S,w=>by simp[zrd] at h
 | .mp _ _,cs,h,S,w=>by simp[zrd] at h
 | .ifc _ _,cs,h,S,w=>by simp[zrd] at h
 | .tup _,cs,h,S,w=>by simp[zrd] at h
theorem zED:∀(ns:List Nat) (fs:List DV) (cs:List Value),zrdL L ns fs cs=true->∀S w,
  ∃css:List (List Value),cs=css.flatten/\css.length=fs.length/\(∀i (h:i<fs.length) (h':i<css.length),RD L S w fs[i] css[i])/\css.map (·.length)=ns
 | [],[],[],_,S,w=>⟨[],rfl,rfl,λi h=>by simp at h,rfl⟩
 | n :: ns,x :: xs,cs,h,S,w=>by
  simp only[zrdL,Ab,decide_eq_true_eq] at h;obtain⟨css,h1,h2,h3,h4⟩:=zED ns xs (cs.drop n) h.2 S w;refine⟨cs.take n :: css,by rw[Bn,<-h1,Bh],by simp[h2],λi a b=>?_,by simp[h4,h.1.1]⟩
  cases i with
  | zero=>exact zGf x (cs.take n) h.1.2 S w
  | succ i=>exact h3 i (by simpa using a) (by simpa using b)
 | [],[],_ :: _,h,S,w=>by simp[zrdL] at h
 | [],_ :: _,_,h,S,w=>by simp[zrdL] at h
 | _ :: _,[],_,h,S,w=>by simp[zrdL] at h
end
def Ym(P:Program)(L:Nat->List Nat)(FL:TypeId->List TypeId)(t:TypeId):TK->Bool
 | .int k=>match P.underlying t with | some (.int j)=>j == k | _=>false
 | .bool=>match P.underlying t with | some .bool=>true | _=>false
 | .str=>match P.underlying t with | some .string=>true | _=>false
 | .flt k=>match P.underlying t with | some (.float j)=>j == k | _=>false
 | .cpx k=>match P.underlying t with | some (.complex j)=>j == k | _=>false
 | .ptr e=>match P.underlying t with | some (.pointer f)=>f == e | _=>false
 | .slice e=>match P.underlying t with | some (.slice f)=>f == e | _=>false
 | .map k e=>match P.underlying t with | some (.map j f)=>j == k && f == e | _=>false
 | .func=>match P.underlying t with | some (.func _ _ _)=>true | _=>false
 | .iface=>match P.underlying t with | some (.interface _)=>true | _=>false
 | .struct tag=>match P.underlying t with
  | some (.struct fs)=>fs.toList.map (·.type) == FL t && fs.size == (L tag).length && (List.range fs.size).all λi=>match fs[i]? with
   | some f=>f.offset == ((L tag).take i).sum && match P.info? f.type with
    | some j=>(L tag)[i]? == some j.size && j.size != 0
    | none=>false
   | none=>true
  | _=>false
 | .array tag n e=>match P.underlying t with
  | some (.array m f)=>m == n && f == e && match P.info? e with
   | some j=>L tag == List.replicate n j.size
   | none=>false
  | _=>false
theorem zHg{P:Program}{FL:TypeId->List TypeId}{t:TypeId}{k:TK}(h:Ym P L FL t k=true):Dsc P L FL t k:=by
 cases k with
 | int k =>
  simp only[Ym] at h;split at h
  ·rename_i j hu;simp only[beq_iff_eq] at h;subst h;exact hu
  ·simp at h
 | flt k =>
  simp only[Ym] at h;split at h
  ·rename_i j hu;simp only[beq_iff_eq] at h;subst h;exact hu
  ·simp at h
 | cpx k =>
  simp only[Ym] at h;split at h
  ·rename_i j hu;simp only[beq_iff_eq] at h;subst h;exact hu
  ·simp at h
 | bool =>
  simp only[Ym] at h;split at h
  ·rename_i hu;exact hu
  ·simp at h
 | str =>
  simp only[Ym] at h;split at h
  ·rename_i hu;exact hu
  ·simp at h
 | ptr e =>
  simp only[Ym] at h;split at h
  ·rename_i j hu;simp only[beq_iff_eq] at h;subst h;exact hu
  ·simp at h
 | slice e =>
  simp only[Ym] at h;split at h
  ·rename_i j hu;simp only[beq_iff_eq] at h;subst h;exact hu
  ·simp at h
 | map k e =>
  simp only[Ym] at h;split at h
  ·rename_i j f hu;simp only[Ab,beq_iff_eq] at h;obtain⟨h1,h2⟩:=h;subst h1;subst h2;exact hu
  ·simp at h
 | func =>
  simp only[Ym] at h;split at h
  ·rename_i hu;exact⟨_,_,_,hu⟩
  ·simp at h
 | iface =>
  simp only[Ym] at h;split at h
  ·rename_i hu;exact⟨_,hu⟩
  ·simp at h
 | struct tag =>
  simp only[Ym] at h;split at h
  case h_2=>simp at h
  rename_i fs hu;simp only[Ab,beq_iff_eq] at h;obtain⟨⟨h1,h2⟩,h3⟩:=h;refine⟨fs,hu,h1,h2,λi f hf=>?_⟩
  have hi:i<fs.size:=(AE.1 hf).1;have h4:=Aj.1 h3 i (AQ.2 hi);rw[hf] at h4;simp only[Ab,beq_iff_eq] at h4;refine⟨h4.1,?_⟩;have h5:=h4.2;split at h5
  ·rename_i j hj;simp only[Ab,beq_iff_eq,bne_iff_ne,ne_eq] at h5;exact⟨j,hj,h5.1,h5.2⟩
  ·cases h5
 | array tag n e =>
  simp only[Ym] at h;split at h
  case h_2=>simp at h
  rename_i m f hu;simp only[Ab,beq_iff_eq] at h;obtain⟨⟨h1,h2⟩,h3⟩:=h;subst h1;subst h2;refine⟨hu,?_⟩;split at h3
  ·rename_i j hj;exact⟨j,hj,by simpa using h3⟩
  ·cases h3
def chkTD(P:Program)(E:Env)(t:TypeId)(d:TD):Bool :=
 (match P.info? t with
  | some i=>i.size == d.size && i.bytes == d.bytes && (match i.zero with | some z=>zrd E.L d.zero z.cells.toList && (J2 z == d.zero.isAgg) | none=>false)
  | none=>false) &&
 Ym P E.L E.flds t d.k && (match d.k with | .struct tag=>d.size == (E.L tag).sum | .array tag _ _=>d.size == (E.L tag).sum | _=>d.size == 1) &&
 !d.zero.isTup && fits d (.d d.zero) &&
 (!d.eqOK || (!P.eqGuardType P.depth t && !P.stoodInHeld t && (match d.k with | .struct _=>(P.fieldsOf t).toList.all λf=>f.name != "_" | _=>true)))
theorem zI0{P:Program}{E:Env}{t:TypeId}{d:TD}(h:chkTD P E t d=true):TOK P E t d:=by
 unfold chkTD at h;simp only[Ab] at h;obtain⟨⟨⟨⟨⟨h1,h2⟩,h3⟩,h4⟩,h5⟩,h6⟩:=h;simp only[Ap] at h4;refine⟨?_,zHg h2,?_,h4,h5,λhe=>?_⟩
 ·split at h1
  ·rename_i i hi;simp only[Ab,beq_iff_eq] at h1;obtain⟨⟨a1,a2⟩,a3⟩:=h1;split at a3
   ·rename_i z hz;simp only[Ab,beq_iff_eq] at a3;exact⟨i,z,hi,a1,a2,hz,λS w=>RV.of h4 (zGf d.zero _ a3.1 S w) a3.2⟩
   ·cases a3
  ·cases h1
 ·cases hk:d.k <;> rw[hk] at h3 <;> simpa using h3
 ·rw[he] at h6;simp only[Bool.not_true,BA,Ab,Ap] at h6;refine⟨h6.1.1,h6.1.2,?_⟩;have h7:=h6.2;cases hk:d.k <;> rw[hk] at h7 <;> try trivial
  intro f hf;have:=Aj.1 h7 f (by simpa using hf)
  simpa using this
end
end Go.Am
namespace Go.Am
open Go.Proofs
open Go Go.RowKit
def DT(E:Env):Nat->TypeId->DV->Prop
 | 0,_,_=>False
 | n+1,t,x=>match E.D t with
  | none=>False
  | some td=>match td.k with
   | .int k=>∃m,x=.int k m/\k.min<=m/\m<=k.max
   | .bool=>∃b,x=.bool b
   | .flt k=>∃b,x=.flt k b/\(Lit.float k b).wf=true
   | .str=>∃s,x=.str s
   | .slice e=>∃(ed:TD) (xs:List DV),E.D e=some ed/\x=.sl ed.size xs/\∀y∈xs,DT E n e y
   | .struct tag=>∃xs:List DV,x=.agg tag xs/\xs.length=(E.flds t).length/\∀(i:Nat) (u:TypeId) (y:DV),(E.flds t)[i]? = some u->xs[i]? = some y->DT E n u y
   | .array tag m e=>∃xs:List DV,x=.agg tag xs/\xs.length=m/\∀y∈xs,DT E n e y
   | _=>False
def slicy(E:Env):Nat->TypeId->Bool
 | 0,_=>true
 | n+1,t=>match E.D t with
  | none=>true
  | some td=>match td.k with
   | .slice _=>true
   | .struct _=>(E.flds t).any (slicy E n)
   | .array _ _ e=>slicy E n e
   | _=>false
def okTy(E:Env)(nest:Bool):Nat->TypeId->Bool
 | 0,_=>false
 | n+1,t=>match E.D t with
  | none=>false
  | some td=>match td.k with
   | .int _ | .bool | .flt _ | .str=>true
   | .slice e=>(match E.D e with | some ed=>decide (0<ed.size) | none=>false) && okTy E nest n e && (nest || !slicy E n e)
   | .struct _=>(E.flds t).all (okTy E nest n)
   | .array _ _ e=>(E.D e).isSome && okTy E nest n e
   | _=>false
def spotV:Value->Prop
 | .slice (some a) _ _=>a.spot=none
 | _=>True
theorem YJ{α:Type}{Q:Nat->α->Prop}:∀n:Nat,(∀i,i<n->∃x,Q i x)->∃xs:List α,xs.length=n/\∀i (h:i<xs.length),Q i xs[i]
 | 0,_=>⟨[],rfl,λi h=>by simp at h⟩
 | n+1,h=>by
  obtain⟨xs,h1,h2⟩:=YJ (Q:=Q) n λi hi=>h i (by omega)
  obtain⟨x,hx⟩:=h n (by omega)
  refine⟨xs++[x],by simp[h1],λi hi=>?_⟩
  by_cases hi':i<xs.length
  ·rw[AB hi'];exact h2 i hi'
  ·have:i=n:=by simp at hi;omega
   subst this;rw[Ax (by omega)]
   simpa[h1] using hx
def zB0{α:Type}:List Nat->List α->List (List α)
 | [],_=>[]
 | n :: ns,cs=>cs.take n :: zB0 ns (cs.drop n)
theorem zCc{α:Type}:∀(ns:List Nat) (cs:List α),(zB0 ns cs).length=ns.length
 | [],_=>rfl
 | n :: ns,cs=>by simp[zB0,zCc ns]
theorem Qz{α:Type}:∀(ns:List Nat) (cs:List α),cs.length=ns.sum->(zB0 ns cs).flatten=cs
 | [],cs,h=>by simp at h;subst h;rfl
 | n :: ns,cs,h=>by simp only[zB0,Bn];rw[Qz ns (cs.drop n) (by simp at h ⊢;omega),Bh]
theorem zDG{α:Type}:∀(ns:List Nat) (cs:List α),cs.length=ns.sum->(zB0 ns cs).map (·.length)=ns
 | [],cs,_=>rfl
 | n :: ns,cs,h=>by
  simp only[zB0,Bz,List.length_take];rw[zDG ns (cs.drop n) (by simp at h ⊢;omega)]
  congr 1;simp at h;omega
theorem zF6{α:Type}:∀(ns:List Nat) (cs:List α) (i:Nat) (h:i<(zB0 ns cs).length),(zB0 ns cs)[i]=(cs.drop (ns.take i).sum).take (ns[i]'(by rw[zCc] at h;exact h))
 | [],cs,i,h=>by simp[zB0] at h
 | n :: ns,cs,0,h=>by simp[zB0]
 | n :: ns,cs,i+1,h=>by
  simp only[zB0,Bf];rw[zF6 ns (cs.drop n) i (by simpa[zB0] using h)]
  simp[List.drop_drop,Nat.add_comm]
section
variable{P:Program}{E:Env}{w:World}{base:Nat}{spare:Nat->Bool}{held:Bool}{H:Type}{enc:TypeId×Value->H}
theorem zHJ(hD:DOK P E){t:TypeId}{td:TD}(h:E.D t=some td):P.cellsOf t=td.size:=by obtain⟨i,z,hi,hs,_⟩:=(hD t td h).info;unfold A5;rw[hi];exact hs
theorem cell_lt{a:Addr}{u:Value}(h:w.cell? a=some u):a.block<w.heap.size:=by
 unfold World.cell? at h;cases ho:w.heap[a.block]? with
 | none=>rw[ho] at h;simp at h
 | some o=>exact(AE.1 ho).1
theorem trod_float{k:FloatKind}{t:TypeId}{fuel:Nat}{cs:List Value}{x:DataW H×List MemPlace}(ht:P.underlying t=some (.float k))(h:A9 enc P w base spare held fuel t cs=some x):∃n,cs=[.float k n]/\(Lit.float k n).wf=true:=by
 cases fuel with
 | zero=>simp[A9] at h
 | succ n =>
  unfold A9 at h;rw[ht] at h;split at h <;> simp_all
theorem trod_sound(hD:DOK P E)(nest:Bool)(hsp:nest=true->∀a u,w.cell? a=some u->spotV u):∀(n fuel:Nat) (t:TypeId) (cs:List Value) (d:DataW H×List MemPlace),okTy E nest n t=true ->
  A9 enc P w base spare held fuel t cs=some d->(slicy E n t=true->∀u∈cs,spotV u)->∃x,RD E.L (λb=>b<w.heap.size) w x cs/\DT E n t x:=by
 intro n;induction n with
 | zero=>intro fuel t cs d hok;simp[okTy] at hok
 | succ n ih =>
  intro fuel t cs d hok h hs;unfold okTy at hok;unfold DT;unfold slicy at hs;cases hDt:E.D t with
  | none=>rw[hDt] at hok;simp at hok
  | some td =>
   rw[hDt] at hok hs;simp only at hok hs ⊢;have ht:=hD t td hDt;have hdesc:=ht.desc;have hcell:=zHJ hD hDt;unfold Dsc at hdesc;cases hk:td.k with
   | int k =>
    rw[hk] at hdesc;obtain⟨m,rfl,_,hwf⟩:=DataW.trod_int hdesc h;simp[Lit.wf] at hwf;exact⟨.int k m,.int _ _,m,rfl,hwf.1,hwf.2⟩
   | bool =>
    rw[hk] at hdesc;obtain⟨b,rfl,_⟩:=DataW.trod_bool hdesc h;exact⟨.bool b,.bool _,b,rfl⟩
   | flt k =>
    rw[hk] at hdesc;obtain⟨m,rfl,hwf⟩:=trod_float hdesc h;exact⟨.flt k m,.flt _ _,m,rfl,hwf⟩
   | str =>
    rw[hk] at hdesc;obtain⟨s,rfl,_⟩:=DataW.trod_string hdesc h;exact⟨.str s,.str _,s,rfl⟩
   | slice e =>
    rw[hk] at hdesc hok hs;simp only[Ab] at hok hs ⊢;obtain⟨⟨hed0,hoke⟩,hnest⟩:=hok;obtain⟨ed,hed,hpos⟩:∃ed,E.D e=some ed/\0<ed.size:=by
     cases hq:E.D e with
     | none=>rw[hq] at hed0;simp at hed0
     | some ed=>rw[hq] at hed0;exact⟨ed,rfl,by simpa using hed0⟩
    have hce:=zHJ hD hed;rcases DataW.trod_slice hdesc h with ⟨rfl,_⟩ | ⟨a,len,cap,elems,rest,m,_,rfl,_,_,hlc,_,hel,hels,_,_⟩
    ·exact⟨.sl ed.size [],.sl _ [] none 0 0 [] rfl (AL 0) rfl (λi h=>by simp at h) (by simp) (by simp),ed,[],hed,rfl,by simp⟩
    ·have hspa:a.spot=none:=hs trivial (.slice (some a) len cap) (by simp)
     rw[hce] at hels;have hels:∀i,i<len->∃c:List Value,(∃x,RD E.L (λb=>b<w.heap.size) w x c/\DT E n e x)/\c.length=ed.size/\∀j,j<ed.size->w.cell? ((a.add (i * ed.size)).add j)=c[j]?:=by
      intro i hi;have hb:=hels i hi;rw[Ah (by omega)] at hb
      obtain⟨c,hc1,hc2⟩:=Option.bind_eq_some_iff.1 hb;obtain⟨_,hlen,hcells⟩:=World.cells?_some hc1;refine⟨c,ih m e c _ hoke hc2 ?_,hlen,hcells⟩;intro hsl u hu;rw[hsl] at hnest;simp at hnest;obtain⟨j,hj⟩:=Ai.1 hu;have hjl:j<ed.size:=by rw[<-hlen];exact(Ac.1 hj).1
      exact hsp hnest _ u ((hcells j hjl).trans hj)
     obtain⟨css,hcl,hcss⟩:=YJ len hels;obtain⟨xs,hxl,hxs⟩:=YJ (Q:=λi x=>∀h:i<css.length,RD E.L (λb=>b<w.heap.size) w x css[i]/\DT E n e x) len λi hi=>by
      have hi':i<css.length:=by omega
      obtain⟨x,hx⟩:=(hcss i hi').1;exact⟨x,λ_=>hx⟩
     have hz:∀c∈css,c.length=ed.size:=by intro c hc;obtain⟨i,hi,rfl⟩:=AF.1 hc;exact(hcss i hi).2.1
     refine⟨.sl ed.size xs,.sl _ xs (some a) len cap css hxl hlc (by omega) (λi h1 h2=>(hxs i h1 h2).1) hz λh0=>⟨a,rfl,hspa,?_,?_⟩,ed,xs,hed,rfl,?_⟩
     ·have hi0:0<css.length:=by omega
      have h00:=(hcss 0 hi0).2.2 0 hpos;have hl0:=(hcss 0 hi0).2.1;rw[Ah (by omega)] at h00
      have:=cell_lt h00
      rwa [Jh,Jh] at this
     ·intro j u hj;have hjl:j<css.length * ed.size:=by
       have:=(Ac.1 hj).1
       rwa [YX hz] at this
      have hi:j / ed.size<css.length:=Nat.div_lt_of_lt_mul (by rwa [BE] at hjl)
      have hm':j % ed.size<ed.size:=Nat.mod_lt _ hpos;have e1:=JS css hz (j / ed.size) hi (j % ed.size) hm';have e2:j / ed.size * ed.size+j % ed.size=j:=by rw[BE];exact Nat.div_add_mod j ed.size
      rw[e2] at e1;have:=(hcss _ hi).2.2 (j % ed.size) hm';rw[zCo hspa,e2] at this;rw[this,<-e1,hj]
     ·intro y hy;obtain⟨i,hi,rfl⟩:=AF.1 hy;exact(hxs i hi (by omega)).2
   | struct tag =>
    rw[hk] at hdesc hok hs;simp only at hok hs ⊢;obtain⟨fs,hu,hty,hfl,hoff⟩:=hdesc;have hsz:=ht.size;rw[hk] at hsz;simp only at hsz;obtain⟨ys,m,_,_,hlen,hyl,hys⟩:=DataW.trod_struct hu h;rw[hcell,hsz] at hlen;have hel:∀i,i<(E.L tag).length->∃x,∀hi:i<(zB0 (E.L tag) cs).length,RD E.L (λb=>b<w.heap.size) w x (zB0 (E.L tag) cs)[i]/\∀u,(E.flds t)[i]? = some u->DT E n u x:=by
     intro i hi;have hfi:i<fs.size:=by omega
     have hf:fs[i]? = some fs[i]:=Array.getElem?_eq_getElem hfi;obtain⟨ho,j,hj,hLj,_⟩:=hoff i fs[i] hf;have hb:=hys i fs[i] hf;rw[Ah (by omega)] at hb
     have hlf:fs.toList[i]? = some fs[i]:=by simp[hfi]
     have hfty:(E.flds t)[i]? = some fs[i].type:=by rw[<-hty,AS,hlf];rfl
     have hmem:fs[i].type∈E.flds t:=Ai.2 ⟨i,hfty⟩;have hcf:P.cellsOf fs[i].type=j.size:=by unfold A5;rw[hj];rfl
     have hpiece:(cs.drop fs[i].offset).take (P.cellsOf fs[i].type)=(cs.drop ((E.L tag).take i).sum).take ((E.L tag)[i]):=by
      rw[ho,hcf];rw[Ah hi] at hLj;injection hLj with hLj
      rw[hLj]
     rw[hpiece] at hb;have hokf:=Aj.1 hok _ hmem;obtain⟨x,hx1,hx2⟩:=ih m fs[i].type _ _ hokf hb (λhsl u hu=>hs (List.any_eq_true.2 ⟨_,hmem,hsl⟩) u (Az (Ay hu)))
     refine⟨x,λhi'=>⟨?_,λu hu'=>?_⟩⟩
     ·rw[zF6];exact hx1
     ·rw[hfty] at hu';injection hu' with hu'
      exact hu' ▸ hx2
    obtain⟨xs,hxl,hxs⟩:=YJ (E.L tag).length hel;have hcl:=zCc (E.L tag) cs;have hfl':(E.flds t).length=(E.L tag).length:=by rw[<-hty];simp[hfl]
    refine⟨.agg tag xs,?_,xs,rfl,by omega,λi u y h1 h2=>?_⟩
    ·have:=RD.agg (L:=E.L) (S:=λb=>b<w.heap.size) (w:=w) tag xs (zB0 (E.L tag) cs) (by omega) (λi h1 h2=>(hxs i h1 h2).1) (zDG _ _ hlen)
     rwa [Qz _ _ hlen] at this
    ·have hi:i<xs.length:=(Ac.1 h2).1;rw[Ah hi] at h2;injection h2 with h2
     subst h2;exact(hxs i hi (by omega)).2 u h1
   | array tag m e =>
    rw[hk] at hdesc hok hs;simp only[Ab] at hok hs ⊢;obtain⟨hu,j,hj,hL⟩:=hdesc;obtain⟨hed,hoke⟩:=hok;have hsz:=ht.size;rw[hk] at hsz;simp only at hsz;have hce:P.cellsOf e=j.size:=by unfold A5;rw[hj];rfl
    obtain⟨ys,k,_,_,hlen,hyl,hys⟩:=DataW.trod_array hu h;rw[hcell,hsz] at hlen;rw[hce] at hys;have hLl:(E.L tag).length=m:=by rw[hL];simp
    have hel:∀i,i<m->∃x,∀hi:i<(zB0 (E.L tag) cs).length,RD E.L (λb=>b<w.heap.size) w x (zB0 (E.L tag) cs)[i]/\DT E n e x:=by
     intro i hi;have hb:=hys i hi;rw[Ah (by omega)] at hb
     obtain⟨x,hx1,hx2⟩:=ih k e _ _ hoke hb (λhsl u hu=>hs hsl u (Az (Ay hu)))
     refine⟨x,λhi'=>⟨?_,hx2⟩⟩
     rw[zF6];have e1:((E.L tag).take i).sum=i * j.size:=by rw[hL,List.take_replicate,List.sum_replicate_nat,Nat.min_eq_left (Nat.le_of_lt hi)]
     have e2:(E.L tag)[i]'(by omega)=j.size:=by simp[hL]
     rw[e1,e2];exact hx1
    obtain⟨xs,hxl,hxs⟩:=YJ m hel;have hcl:=zCc (E.L tag) cs;refine⟨.agg tag xs,?_,xs,rfl,hxl,λy hy=>?_⟩
    ·have:=RD.agg (L:=E.L) (S:=λb=>b<w.heap.size) (w:=w) tag xs (zB0 (E.L tag) cs) (by omega) (λi h1 h2=>(hxs i h1 h2).1) (zDG _ _ hlen)
     rwa [Qz _ _ hlen] at this
    ·obtain⟨i,hi,rfl⟩:=AF.1 hy;exact(hxs i hi (by omega)).2
   | _=>rw[hk] at hok;simp at hok
end
end Go.Am
namespace Go.Am
open Go.Proofs
open Go Go.RowKit Go.ChangeShapes Go.WideShapes Go.WideElems
section
variable{H:Type}{enc:TypeId×Value->H}{P:Program}
theorem zBD(hl:laidOutB P=true){W W':World}{sp':Nat->Bool}:∀{ts:List TypeId} {vs:List Value} {ds:List (DataW H)} {ps:List MemPlace},
  (ts.all λt=>P.readableRec t && decide (t<P.types.size))=true->AX enc P W 0 (λ_=>true) true ts vs ds ps->(∀p∈ps,W.sameAt W' p)->(∀p∈ps,sp' p.block=true)->AX enc P W' 0 sp' true ts vs ds ps
 | [],_,_,_,_,h,_,_=>by
  obtain⟨rfl,rfl,rfl⟩:=trodAll_nil h;exact trodAll_mk0
 | t :: ts,_,_,_,ht,h,hs,hp=>by
  obtain⟨v,vs1,d,ds1,a,c,rfl,rfl,rfl,h1,h2⟩:=trodAll_cons h;simp only[List.all_cons,Ab,decide_eq_true_eq] at ht;exact⟨a,c,Trod_stays hl ht.1.1 ht.1.2 h1 (λx hx=>hs x (AA _ hx)) (λx hx=>hp x (AA _ hx)),
   zBD hl ht.2 h2 (λx hx=>hs x (Aw _ hx)) (λx hx=>hp x (Aw _ hx)),rfl⟩
theorem zGz(hl:laidOutB P=true){t:TypeId}(hbool:P.underlying t=some .bool){f:Func}{s:ChangeSpec}{apart fresh handsOn again:Bool}{W W':World}{args:Array Value}{ds gs:List (DataW H)}{before:List MemPlace}
  (hpar:(f.params.toList.all λt=>P.readableRec t && decide (t<P.types.size))=true) (hvars:s.vars=[]) (hr:f.resultTypes=#[t])
  (hW:DataW.Whole enc P f.params.toList s.vars apart W args.toList ds gs before)
  (hfn:s.fn H (ds++gs)={ results:=[.lit (.bool true)],args:=ds,vars:=[] }) (hB:Below W.heap.size W W') :
  s.post enc P f apart fresh handsOn again W args (.bool true) W':=by
 have hW0:=hW;have hlt:=hW.lt;obtain⟨p,q,hA,hV,rfl,hfz,hnd⟩:=hW;rw[hvars] at hV;obtain⟨rfl,rfl⟩:=trodVars_none hV;have hrl:(BD true).resultList f.resultTypes.size=[.bool true]:=by rw[hr];rfl
 have hres:∀(b:Nat) (sp:Nat->Bool) (hd:Bool),AX enc P W' b sp hd f.resultTypes.toList ((BD true).resultList f.resultTypes.size) [.lit (.bool true)] []:=λb sp hd=>by rw[hrl,hr];exact trodAll_mk1 (shut_bool hbool _)
 have hargs:∀sp:Nat->Bool,(∀x∈p,sp x.block=true)->AX enc P W' 0 sp true f.params.toList args.toList ds p:=λsp hs =>
  zBD hl hpar hA (λx hx=>hB.same (hlt x (by simp[hx]))) hs
 refine⟨ds,[],p++[],[],p,[],hW0,?_,?_,?_,hB.frame _,λ_=>⟨?_,.lit (.bool true) :: ds,[],p++[],⟨p,[],?_,?_,rfl,?_,hnd⟩,λx hx _=>hx⟩⟩
 ·rw[hfn];exact hres _ _ _
 ·rw[hfn];exact hargs _ (λx hx=>by simpa using hlt x (by simp[hx]))
 ·rw[hfn,hvars];rfl
 ·intro j t' r h1 h2;rw[hrl] at h2;rw[hr] at h1
  match j,h1,h2 with
  | 0,h1,h2 =>
   simp at h1 h2;subst h1;subst h2;exact okWide_bool_mk hbool _
 ·exact trodAll_append (hargs _ (λ_ _=>rfl)) (hres 0 _ true)
 ·rw[hvars];rfl
 ·intro b off hp;rw[hB.frozen (p:=⟨b,off,none⟩) (hlt _ hp)];exact hfz b off hp
theorem zGn{W:World}{b:Nat}{t:TypeId}{v:Value}(h:A7 P W .any b t v):spotV v:=by
 cases v with
 | slice a n c =>
  cases a with
  | none=>trivial
  | some a =>
   unfold A7 at h;split at h
   all_goals first
    | (rename_i e;cases e;done)
    | (unfold Cell.ok at h
       split at h
       all_goals first
         | exact h.elim
         | (rename_i e;cases e;done)
         | (rename_i e;cases e;exact h.2.2.2.1))
    | skip
 | _=>trivial
theorem Qv{W:World}{b:Nat}{t:TypeId}{v:Value}(h:A7 P W .any b t v):J2 v=false:=by
 cases v with
 | agg cs =>
  unfold A7 at h;split at h
  all_goals first
   | (rename_i e;cases e;done)
   | (unfold Cell.ok at h
      split at h
      all_goals first
        | exact h.elim
        | (rename_i e;cases e;done))
   | skip
 | _=>rfl
theorem spots{W:World}{b:Nat}{t:TypeId}{v:Value}(h:A3 P W .any b t v):∀u∈vcs v,spotV u:=by
 have key:∀cs:Array Value,v=.agg cs->Row.okWide P W .any b t cs->∀u∈vcs v,spotV u:=by
  rintro cs rfl ⟨ts,_,_,hc⟩ u hu;obtain⟨i,hi⟩:=Ai.1 (show u∈cs.toList from hu)
  obtain⟨t',_,h'⟩:=hc i u (by simpa using hi)
  exact zGn h'
 unfold A3 at h;split at h
 ·obtain⟨cs,e,_,h⟩:=h;exact key cs e h
 ·obtain⟨cs,e,_,h⟩:=h;exact key cs e h
 ·intro u hu;have ha:=Qv h;have:u=v:=by cases v <;> first | (simp[J2] at ha;done) | simpa[vcs,AW] using hu
  exact this ▸ zGn h
end
section
variable{H:Type}{enc:TypeId×Value->H}{P:Program}{E:Env}
theorem zCY(hD:DOK P E){W:World}{base:Nat}{t:TypeId}{v:Value}{d:DataW H}{ps:List MemPlace}(n:Nat)(hok:okTy E false n t=true)(hval:A3 P W .any base t v)(h:DataW.Trod enc P W 0 (λ_=>true) true t v d ps) :
  ∃x,RV E.L (λb=>b<W.heap.size) W x v/\DT E n t x:=by
 obtain⟨fuel,hf⟩:=h;obtain⟨x,hx,hdt⟩:=trod_sound hD false (λh=>by cases h) n fuel t _ _ hok hf (λ_=>spots hval)
 have hdt0:=hdt;cases n with
 | zero=>exact hdt.elim
 | succ n =>
  unfold DT at hdt;cases hDt:E.D t with
  | none=>rw[hDt] at hdt;exact hdt.elim
  | some td =>
   rw[hDt] at hdt;simp only at hdt;have hdesc:=(hD t td hDt).desc;unfold Dsc at hdesc;unfold A3 at hval;refine⟨x,?_,hdt0⟩;cases hk:td.k with
   | int k =>
    rw[hk] at hdt hdesc;obtain⟨m,rfl,_⟩:=hdt;rw[hdesc] at hval;exact RV.of rfl hx (Qv hval)
   | bool =>
    rw[hk] at hdt hdesc;obtain⟨m,rfl⟩:=hdt;rw[hdesc] at hval;exact RV.of rfl hx (Qv hval)
   | flt k =>
    rw[hk] at hdt hdesc;obtain⟨m,rfl,_⟩:=hdt;rw[hdesc] at hval;exact RV.of rfl hx (Qv hval)
   | str =>
    rw[hk] at hdt hdesc;obtain⟨m,rfl⟩:=hdt;rw[hdesc] at hval;exact RV.of rfl hx (Qv hval)
   | slice e =>
    rw[hk] at hdt hdesc;obtain⟨ed,xs,_,rfl,_⟩:=hdt;rw[hdesc] at hval;exact RV.of rfl hx (Qv hval)
   | struct tag =>
    rw[hk] at hdt hdesc;obtain⟨xs,rfl,_⟩:=hdt;obtain⟨fs,hu,_⟩:=hdesc;rw[hu] at hval;obtain⟨cs,rfl,_⟩:=hval;exact RV.of rfl hx rfl
   | array tag m e =>
    rw[hk] at hdt hdesc;obtain⟨xs,rfl,_⟩:=hdt;obtain⟨hu,_⟩:=hdesc;rw[hu] at hval;obtain⟨cs,rfl,_⟩:=hval;exact RV.of rfl hx rfl
   | _=>rw[hk] at hdt;exact hdt.elim
end
end Go.Am
