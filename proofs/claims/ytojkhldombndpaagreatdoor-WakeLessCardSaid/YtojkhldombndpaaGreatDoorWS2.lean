/- WakeLess: for every input the law returns true, and each argument reads afterwards as it read before. Part 2. -/
import Derived.Test.YtojkhldombndpaaGreatDoorWS1
set_option linter.all false
namespace Go.Am
open Go.Proofs
open Go Go.RowKit
section
variable{P:Program}{E:Env}{base:Nat}{S S':Nat->Prop}{φ:Nat->Option Nat}{st:St}{a:Act}{w w':World}
theorem YT:∀(ss:List Nat) (hp:List (Option OB)) (b:Nat),b ∉ ss->slot (Am.freezeL hp ss) b=slot hp b
 | [],hp,b,_=>rfl
 | c :: ss,hp,b,h=>by
  simp only[Am.freezeL];rw[YT ss _ b (λhh=>h (List.mem_cons_of_mem _ hh))]
  unfold freeze1;split
  ·rw[Ja (by rintro rfl;exact h (by simp))]
  ·rfl
theorem qk{α:Type}{sz:Nat}:∀(css:List (List α)),(∀c∈css,c.length=sz)->∀n,(css.take n).flatten=css.flatten.take (n * sz)
 | [],_,n=>by simp
 | c :: css,hz,0=>by simp
 | c :: css,hz,n+1=>by
  have hc:=hz c (by simp)
  rw[List.take_succ_cons,List.flatten_cons,List.flatten_cons,qk css (λd hd=>hz d (by simp[hd])) n,Nat.succ_mul,Nat.add_comm,<-hc,List.take_length_add_append]
theorem YP{α:Type}{sz:Nat}{css:List (List α)}(hz:∀c∈css,c.length=sz):css.flatten.length=css.length * sz:=by rw[zAm,zC2 hz];simp
theorem RA.own_inv{b off len sz:Nat}{u:Value}(hu:RAV E.L S φ w (.own b off len sz) u):(∃cb c,φ b=some cb/\len<=c/\Room w cb ((off+c) * sz)/\u=.slice (some ⟨cb,off * sz,none⟩) len c)\/(∃a,len=0/\u=.slice a 0 0):=hu.own
theorem zI6(hD:DOK P E)(h:Rel E base S φ st a w){ts:Array TypeId}{vs:List AV}{us:List Value}(hu:ListOK E.L S φ w vs us){ef:Eff}(hs:zA3 E ts.toList st.hp vs=some ef)(hok:ef.ok=true)(ty:TypeId)(dst:Option Tmp)(s:Nat) :
  ef.new=none/\∃r w' S',(Builtin.copy_ ts ty us.toArray).run P w=.ok r w'/\Rel E base S' φ (zj ef dst s st) (a.put dst r) w'/\Grow base S S' w w':=by
 unfold zA3 at hs;split at hs
 case h_2=>simp at hs
 rename_i x y;split at hs
 case h_2=>simp at hs
 rename_i t t2 hts;obtain⟨td,htd,hs1⟩:=zA hs;clear hs;have ht:=hD t td htd;split at hs1
 case h_2=>simp at hs1
 rename_i e hk;obtain⟨ed,hed,hs2⟩:=zA hs1;clear hs1;split at hs2
 case h_2=>simp at hs2
 rename_i b off len sz;obtain⟨hsz,hs3⟩:=zE hs2;clear hs2;split at hs3
 case h_2=>simp at hs3
 rename_i s' xs hsl;obtain⟨hg,hs4⟩:=zE hs3;clear hs3;obtain⟨el,hel,hs5⟩:=zA hs4;clear hs4;injection hs5 with hs5;subst hs5
 simp only[decide_eq_true_eq] at hsz hg;obtain⟨rfl,hlen⟩:=hg;have he:=hD e ed hed;obtain⟨i,z,hi,hiz,_,hz,_⟩:=he.info;obtain⟨ud,us',rfl⟩:∃ud us',us=[ud,us']:=by
  match us,hu.1 with
  | [p,q],_=>exact⟨p,q,rfl⟩
  | [],h=>simp at h
  | [_],h=>simp at h
  | _ :: _ :: _ :: _,h=>simp at h
 have h1:=hu.2 0 (by simp) (by simp)
 have h2:=hu.2 1 (by simp) (by simp)
 simp only[List.getElem_cons_zero,List.getElem_cons_succ] at h1 h2;clear hu;obtain⟨css2,hl2,hr2,hz2',hslc⟩:=zBN h hel h2;have hz2:∀c∈css2,c.length=s':=λc hc=>(hz2' c hc).trans hsz.symm
 clear hz2';simp only[Eff.ok,Bool.and_true,Bool.not_eq_true',List.contains_eq_mem,decide_eq_false_iff_not] at hok;obtain⟨S1,hR1,hG1,hS1⟩:=h.freezeL el.2;have hsl1:slot (Am.freezeL st.hp el.2) b=some ⟨false,.dc s' xs⟩:=by rw[YT _ _ _ hok];exact hsl
 obtain⟨cb,hφ,hbase,hrb,hfz⟩:=hR1.blk b _ hsl1;have hnS:¬S1 cb:=λhh=>by simpa using hfz.1 hh
 obtain⟨cells,ct,css,c1,c2,c3,c4,c5⟩:=hrb;have hss:ed.size=i.size:=hiz.symm;have hn:Nat.min el.1.length len=min el.1.length len:=rfl;have hfirst:=hslc.first (P:=P) (m:=min el.1.length len) (sz:=s') (Nat.min_le_left _ _) (by rw[YP hz2,hl2])
 have ets:ts.toList=[t,t2]:=hts;have e0:ts[0]? = some t:=by rw[<-Array.getElem?_toList,ets];rfl
 have hso:(sizeOf e).run P w=.ok s' w:=by rw[he.sizeOf w,<-hsz]
 have hrd:∀i (h:i<el.1.length) (h':i<css2.length),RD E.L S1 w el.1[i] css2[i]:=λi a b=>(hr2 i a b).mono (λx hx=>(hS1 x).2 hx) λ_ _=>rfl
 have hcl:xs.length * s'<=cells.size:=by have:=c5.length_le;rw[YP c4,c2] at this;simpa using this
 generalize hmin:min el.1.length len=n at *
 have hn1:n<=el.1.length:=by omega
 have hn2:n<=len:=by omega
 have hnc:off * s'+(css2.flatten.take (n * s')).length<=cells.size:=by
  rw[List.length_take,YP hz2,hl2];have h3:off * s'+n * s'<=xs.length * s':=by rw[<-Nat.add_mul];exact Nat.mul_le_mul_right _ (by omega)
  omega
 have hfl:(css2.flatten.take (n * s')).length=n * s':=by rw[List.length_take,YP hz2,hl2];exact Nat.min_eq_left (Nat.mul_le_mul_right _ hn1)
 have hone:∀v∈css2.flatten.take (n * s'),v.oneCell'=true:=λv hv=>by obtain⟨c,hc,hv⟩:=List.mem_flatten.1 (List.mem_of_mem_take hv);obtain⟨k,hk,rfl⟩:=List.mem_iff_getElem.1 hc;exact(hrd k (by omega) hk).oneCell v hv
 have happ:∀(v:AV) (blk:Blk),zj { v,upd:=some (b,blk),frz:=el.2 } dst s st={ tm:=jh st.tm dst v,hp:=(Am.freezeL st.hp el.2).set b (some ⟨false,blk⟩) }:=λv blk=>by simp[zj,zCh,hsl1,zDl]
 refine⟨rfl,goInt n,?_⟩;have hrow:∀w',Keep S1 S1 φ φ w w'->w'.heap[cb]? = some (.cells (splice cells.toList (off * s') (css2.flatten.take (n * s'))).toArray ct (0,0)) ->
   RB E.L S1 φ w' (.dc s' (xs.take off++el.1.take n++xs.drop (off+n))) cb:=by
  intro w' k hw;refine⟨_,ct,css.take off++css2.take n++css.drop (off+n),hw,by simp[c2,hl2],λj p q=>?_,λc hc=>?_,?_⟩
  ·have hxt:(xs.take off).length=off:=by simp;omega
   have hct:(css.take off).length=off:=by simp;omega
   have het:(el.1.take n).length=n:=by simp;omega
   have h2t:(css2.take n).length=n:=by simp;omega
   by_cases p1:j<off
   ·rw[List.getElem_append_left (by simp;omega),List.getElem_append_left (by omega),List.getElem_append_left (by simp;omega),List.getElem_append_left (by omega)]
    simp only[List.getElem_take];exact(c3 j (by omega) (by omega)).mono k.sub k.heap
   ·by_cases p2:j<off+n
    ·rw[List.getElem_append_left (by simp;omega),List.getElem_append_right (by omega),List.getElem_append_left (by simp;omega),List.getElem_append_right (by omega)]
     simp only[List.getElem_take,hxt,hct];exact(hrd (j - off) (by omega) (by omega)).mono k.sub k.heap
    ·rw[List.getElem_append_right (by simp;omega),List.getElem_append_right (by simp;omega)]
     simp only[List.getElem_drop,List.length_append,hxt,hct,het,h2t];exact(c3 _ (by simp at p;omega) (by simp at q;omega)).mono k.sub k.heap
  ·rcases List.mem_append.1 hc with hc | hc
   ·rcases List.mem_append.1 hc with hc | hc
    ·exact c4 c (List.mem_of_mem_take hc)
    ·exact hz2 c (List.mem_of_mem_take hc)
   ·exact c4 c (List.mem_of_mem_drop hc)
  ·obtain⟨r,hr⟩:=c5;refine⟨r,?_⟩;have hff:css.flatten.length=xs.length * s':=by rw[YP c4,c2]
   have h3:off * s'+n * s'<=xs.length * s':=by rw[<-Nat.add_mul];exact Nat.mul_le_mul_right _ (by omega)
   show _=splice cells.toList (off * s') (css2.flatten.take (n * s'));rw[<-hr];unfold splice;rw[List.take_append_of_le_length (by omega),List.drop_append_of_le_length (by omega),hfl]
   simp only[List.flatten_append,qk css c4,qk css2 hz2,Jp css c4,Nat.add_mul];simp
 rcases RA.own_inv h1 with ⟨cb',c,hφ',hcc,_,rfl⟩ | ⟨ad,hl0,rfl⟩
 ·have ecb:cb=cb':=Option.some.inj (hφ.symm.trans hφ');subst ecb;have hst:=run_storeCells_at P cb (off * s') ct (css2.flatten.take (n * s')) 0 cells w c1 (by simpa using hnc) hone
  simp only[Nat.add_zero] at hst;rw[show(cells.toList.take (off * s')++css2.flatten.take (n * s')++cells.toList.drop (off * s'+(css2.flatten.take (n * s')).length))=splice cells.toList (off * s') (css2.flatten.take (n * s')) from rfl] at hst
  have hbut:But cb w (w.setRow cb (splice cells.toList (off * s') (css2.flatten.take (n * s'))).toArray):=But.setRow c1 (by rw[List.size_toArray,ju (by simpa using hnc)];simp)
  refine⟨_,S1,?_,?_,hG1.trans (hbut.grow hR1.lt hnS hR1.base hbase)⟩
  ·have hmn:Nat.min el.1.length len=n:=hmin;simp only[Builtin.copy_,e0,List.getElem?_toArray,List.getElem?_cons_zero,List.getElem?_cons_succ,Sem.run_bind,run_underlying (QO ht hk),Result.andThen_ok,hslc.lenOf,hso,hmn,hfirst,hst,Sem.run_pure]
  ·rw[happ];have:=hR1.write hsl1 hφ hbut (hrow _ (hbut.keep hR1.lt hnS) (setRow_heap w cb cells _ ct (0,0) c1));exact this.put dst (v:=.d (.int .i64 _)) (RV.mkInt _ _)
 ·subst hl0;have hn0:n=0:=by omega
  subst hn0;refine⟨w,S1,?_,?_,hG1⟩
  ·have hmn:Nat.min el.1.length 0=0:=by simp[Nat.min_eq_right]
   cases ad with
   | none=>simp only[Builtin.copy_,e0,List.getElem?_toArray,List.getElem?_cons_zero,List.getElem?_cons_succ,Sem.run_bind,run_underlying (QO ht hk),Result.andThen_ok,hslc.lenOf,hso,hmn,hfirst,Sem.run_pure]
   | some ad=>simp only[Builtin.copy_,e0,List.getElem?_toArray,List.getElem?_cons_zero,List.getElem?_cons_succ,Sem.run_bind,run_underlying (QO ht hk),Result.andThen_ok,hslc.lenOf,hso,hmn,hfirst,Sem.run_pure,Nat.zero_mul,List.take_zero,storeCells]
  ·rw[happ];have:=hR1.write (w':=w) hsl1 hφ ⟨rfl,rfl,rfl,Nat.le_refl _,λ_ _ _=>rfl,λ_ h=>h⟩ (hrow w Keep.refl (by
    rw[c1];have:splice cells.toList (off * s') (css2.flatten.take (0 * s'))=cells.toList:=by simp[splice]
    rw[this]))
   exact this.put dst (v:=.d (.int .i64 _)) (RV.mkInt _ _)
end
end Go.Am
namespace Go.Am
open Go.Proofs
open Go Go.RowKit
section
variable{P:Program}{E:Env}{base:Nat}{S S':Nat->Prop}{φ:Nat->Option Nat}{st:St}{a:Act}{w w':World}
theorem zIt(t ty e:TypeId)(i:TypeInfo)(z:Value)(ht:P.underlying t=some (.slice e))(hi:P.info? e=some i)(hz:i.zero=some z)(hzs:z.cells.size=i.size)(hby:0<i.bytes)
  {n m:Nat} {olds news:List Value} {ub ux:Value} {bs:Option Addr} {c:Nat} (hub:ub=.slice bs n c) (hnc:n<=c) (hb:bs=none->c=0) (holds:∀ad,bs=some ad->∀j v,olds[j]? = some v->w.cell? (ad.add j)=some v) (hlo:olds.length=n * i.size)
  (hx:SlC w m news ux) (hln:news.length=m * i.size) (hg:c<n+m) (hfit:(2 * (n+m)+200) * i.bytes<=281474976710656) :
  ∃C X,(Builtin.append_ #[t,t] ty #[ub,ux]).run P w=.ok (.slice (some ⟨w.heap.size,0,none⟩) (n+m) C) (w.drew.alloc (.cells X e))/\n+m<=C/\(olds++news) <+: X.toList/\C * i.size<=X.size:=by
 subst hub;obtain⟨ax,cx,rfl,hcx,hcell⟩:=hx;have hm:0<m:=by omega
 obtain⟨ad,rfl,_,hnews⟩:=hcell hm;have hle:(2 * (n+m)+200)<=281474976710656:=Nat.le_trans (Nat.le_mul_of_pos_right _ hby) hfit;have h2:2 * (n+m) * i.bytes<=281474976710656:=Nat.le_trans (Nat.mul_le_mul_right _ (by omega)) hfit
 have fin:∀(C:Nat),n+m<=C->(olds++news) <+: (olds.toArray++news.toArray++Builtin.zeroCells z.cells (C - (n+m))).toList/\C * i.size<=(olds.toArray++news.toArray++Builtin.zeroCells z.cells (C - (n+m))).size:=by
  intro C hC;refine⟨⟨(Builtin.zeroCells z.cells (C - (n+m))).toList,by simp⟩,?_⟩
  simp only[Array.size_append,List.size_toArray,size_zeroCells,hzs,hlo,hln,<-Nat.add_mul];exact Nat.mul_le_mul_right _ (by omega)
 cases bs with
 | none =>
  have hc:c=0:=hb rfl;subst hc;have hn:n=0:=by omega
  subst hn;have ho:olds=[]:=List.eq_nil_of_length_eq_zero (by simpa using hlo)
  subst ho;simp only[Nat.zero_add] at hle h2 fin ⊢;have hr:=run_append_nil (P:=P) w t ty e i z ht hi hz ad m cx news hln hnews hm (by omega) (by rw[Nat.mul_assoc] at h2;omega)
  have hge:=grownCap_ge w m 0 e;have:=fin _ hge;simp only[List.nil_append] at this ⊢;refine⟨grownCap w m 0 e,_,hr,hge,?_,?_⟩
  ·simpa using this.1
  ·simpa using this.2
 | some b =>
  have hr:=run_append_grow (P:=P) w t ty e i z ht hi hz b n c olds hlo (holds b rfl) ad m cx news hln hnews hg (by omega) (by
   exact Nat.le_trans (Nat.mul_le_mul_right _ (nextslicecap_le hg)) h2)
  have hge:=grownCap_ge w (n+m) c e;exact⟨_,_,hr,hge,fin _ hge⟩
theorem run_app_in(t ty e:TypeId)(i:TypeInfo)(ht:P.underlying t=some (.slice e))(hi:P.info? e=some i)
  {n m c cb:Nat} {news:List Value} {ux:Value} {cur:Array Value} {ct:TypeId} (hg:w.heap[cb]? = some (.cells cur ct (0,0))) (hx:SlC w m news ux) (hln:news.length=m * i.size) (h1:∀u∈news,u.oneCell'=true)
  (hroom:n+m<=c) (hfit:n * i.size+news.length<=cur.size) :
  (Builtin.append_ #[t,t] ty #[.slice (some ⟨cb,0,none⟩) n c,ux]).run P w=.ok (.slice (some ⟨cb,0,none⟩) (n+m) c) (w.setRow cb (splice cur.toList (n * i.size) news).toArray):=by
 have hf:=hx.first (P:=P) (m:=m) (sz:=i.size) (Nat.le_refl _) hln;rw[List.take_of_length_le (by omega)] at hf
 have hst:=run_storeCells_at P cb (n * i.size) ct news 0 cur w hg (by simpa using hfit) h1
 simp only[Nat.add_zero] at hst;obtain⟨ax,cx,rfl,_⟩:=hx;simp[Builtin.append_,run_underlying ht,sizeOf,typeInfo,hi,Builtin.lenOf,hroom,hf,Addr.add_lit,hst,splice]
theorem Ql(t ty e:TypeId)(i:TypeInfo)(ht:P.underlying t=some (.slice e))(hi:P.info? e=some i){ad:Option Addr}{news:List Value}{ux:Value}(hx:SlC w 0 news ux)(hln:news.length=0 * i.size) :
  (Builtin.append_ #[t,t] ty #[.slice ad 0 0,ux]).run P w=.ok (.slice ad 0 0) w:=by
 have hf:=hx.first (P:=P) (m:=0) (sz:=i.size) (Nat.le_refl _) hln;obtain⟨ax,cx,rfl,_⟩:=hx;have hn:news=[]:=List.eq_nil_of_length_eq_zero (by simpa using hln)
 subst hn;simp only[List.take_nil] at hf;cases ad <;> simp[Builtin.append_,run_underlying ht,sizeOf,typeInfo,hi,Builtin.lenOf,hf,storeCells]
set_option maxHeartbeats 2000000 in
theorem zGd(hD:DOK P E)(h:Rel E base S φ st a w){ts:Array TypeId}{vs:List AV}{us:List Value}(hu:ListOK E.L S φ w vs us){s:Nat}{ef:Eff}(hs:JP E ts.toList s st.hp vs=some ef)(hok:ef.ok=true)(ty:TypeId)(dst:Option Tmp){st':St}
  (hst:(match ef.new with
   | none=>some (zj ef dst s st)
   | some b=>zm (dst.isSome && zh s b) (some (zj ef dst s (clear s st))))=some st') :
  ∃r w' S' φ',(Builtin.append_ ts ty us.toArray).run P w=.ok r w'/\Rel E base S' φ' st' (a.put dst r) w'/\Grow base S S' w w':=by
 unfold JP at hs;split at hs
 case h_2=>simp at hs
 rename_i x y;split at hs
 case h_2=>simp at hs
 rename_i t t2 hts;obtain⟨ett,hs0⟩:=zE hs;clear hs;simp only[decide_eq_true_eq] at ett;subst ett;obtain⟨td,htd,hs1⟩:=zA hs0;clear hs0;have ht:=hD t td htd;split at hs1
 case h_2=>simp at hs1
 rename_i e hk;obtain⟨ed,hed,hs2⟩:=zA hs1;clear hs1;obtain⟨bs,hbs,hs3⟩:=zA hs2;clear hs2;obtain⟨el,hel,hs4⟩:=zA hs3;clear hs3;obtain⟨hg,hs5⟩:=zE hs4;clear hs4;simp only[decide_eq_true_eq] at hg;obtain⟨hsz0,hby0,hfit⟩:=hg;have he:=hD e ed hed;obtain⟨i,z,hi,hiz,hib,hz,hzr⟩:=he.info;have hrdz:=RV.rd he.zt (hzr S w);have hzs:z.cells.size=i.size:=by have h1:(vcs z).length=JZ E.L (.d ed.zero):=hrdz.1.len;rw[<-(jP he he.zfit).1,<-hiz] at h1;simpa[vcs] using h1
 have htu:=QO ht hk;rw[<-hiz] at hsz0 hbs hel;rw[<-hib] at hby0 hfit;obtain⟨ub,ux,rfl⟩:∃ud us',us=[ud,us']:=by
  match us,hu.1 with
  | [p,q],_=>exact⟨p,q,rfl⟩
  | [],h=>simp at h
  | [_],h=>simp at h
  | _ :: _ :: _ :: _,h=>simp at h
 have h1:=hu.2 0 (by simp) (by simp)
 have h2:=hu.2 1 (by simp) (by simp)
 simp only[List.getElem_cons_zero,List.getElem_cons_succ] at h1 h2;clear hu;have ets:ts=#[t,t]:=Array.ext' (by simpa using hts)
 subst ets;obtain⟨css2,hl2,hr2,hz2,hslc⟩:=zBN h hel h2;have hfl2:css2.flatten.length=el.1.length * i.size:=by rw[YP hz2,hl2]
 by_cases hnil:bs.2=none/\el.1=[]
 ·obtain⟨hn1,hn2⟩:=hnil;rw[hn1,hn2] at hs5;simp[zc] at hs5;subst hs5;injection hst with hst;subst hst
  rw[hn2] at hslc hfl2;have hub:∃ad,ub=.slice ad 0 0:=by
   unfold YK at hbs;split at hbs
   ·exact RV.nl (show RV E.L S w .nl ub from h1)
   ·split at hbs
    ·split at hbs
     ·split at hbs
      ·injection hbs with hbs;rw[<-hbs] at hn1;simp at hn1
      ·simp at hbs
     ·simp at hbs
    ·simp at hbs
   ·simp at hbs
  obtain⟨ad,rfl⟩:=hub;exact⟨_,w,S,φ,Ql t ty e i htu hi hslc hfl2,h.put dst (v:=.d .nl) ⟨.nl _,rfl⟩,Grow.refl⟩
 ·have hef:ef={ v:=.own s 0 (bs.1.length+el.1.length) i.size,new:=some (.dc i.size (bs.1++el.1)),kil:=bs.2,frz:=el.2 }:=by
   split at hs5
   ·rename_i e1 e2;exact absurd ⟨e1,e2⟩ hnil
   ·rw[hiz];injection hs5 with hs5;exact hs5.symm
  subst hef;obtain⟨hgd,hst⟩:=zE hst;injection hst with hst;subst hst
  simp only[Eff.ok,Bool.true_and] at hok;obtain⟨S1,hR1,hG1,hS1⟩:=h.freezeL el.2;have hrd:∀i (h:i<el.1.length) (h':i<css2.length),RD E.L S1 w el.1[i] css2[i]:=λi a b=>(hr2 i a b).mono (λx hx=>(hS1 x).2 hx) λ_ _=>rfl
  have hone:∀v∈css2.flatten,v.oneCell'=true:=λv hv=>by obtain⟨c,hc,hv⟩:=List.mem_flatten.1 hv;obtain⟨k,hk,rfl⟩:=List.mem_iff_getElem.1 hc;exact(hrd k (by omega) hk).oneCell v hv
  have hR2:=hR1.clear s;have happ:zj { v:=.own s 0 (bs.1.length+el.1.length) i.size,new:=some (.dc i.size (bs.1++el.1)),kil:=bs.2,frz:=el.2 } dst s (clear s st) =
    { tm:=jh (clear s { st with hp:=Am.freezeL st.hp el.2 }).tm dst (.own s 0 (bs.1.length+el.1.length) i.size),hp:=(zDl (clear s { st with hp:=Am.freezeL st.hp el.2 }).hp bs.2).set s (some ⟨false,.dc i.size (bs.1++el.1)⟩) }:=by
   simp only[zj,zCh,clear,qj]
  have hR3:Rel E base S1 (upd φ s none) { clear s { st with hp:=Am.freezeL st.hp el.2 } with hp:=zDl (clear s { st with hp:=Am.freezeL st.hp el.2 }).hp bs.2 } a w:=by
   cases hb2:bs.2 with
   | none=>exact hR2
   | some b=>exact hR2.drop b
  have hblk:∀{w':World} {X:Array Value} {ct:TypeId} {cb:Nat} (css:List (List Value)),css.length=bs.1.length->(∀i (h:i<bs.1.length) (h':i<css.length),RD E.L S1 w bs.1[i] css[i])->(∀c∈css,c.length=i.size) ->
    (∀b,S1 b->w'.heap[b]? = w.heap[b]?)->w'.heap[cb]? = some (.cells X ct (0,0))->(css.flatten++css2.flatten) <+: X.toList->RB E.L S1 (upd (upd φ s none) s (some cb)) w' (.dc i.size (bs.1++el.1)) cb:=by
   intro w' X ct cb css k1 k2 k3 k4 k5 k6;refine⟨X,ct,css++css2,k5,by simp[k1,hl2],λj p q=>?_,λc hc=>?_,by simpa using k6⟩
   ·by_cases hj:j<bs.1.length
    ·rw[List.getElem_append_left hj,List.getElem_append_left (by omega)]
     exact(k2 j hj (by omega)).mono (λ_ h=>h) k4
    ·rw[List.getElem_append_right (by omega),List.getElem_append_right (by omega)]
     simp only[k1];exact(hrd _ (by simp at p;omega) (by simp at q;omega)).mono (λ_ h=>h) k4
   ·rcases List.mem_append.1 hc with hc | hc
    ·exact k3 c hc
    ·exact hz2 c hc
  have out:∀{n c:Nat} {ob:Option Addr} (css:List (List Value)),n=bs.1.length->ub=.slice ob n c->n<=c->(ob=none->c=0)->css.length=bs.1.length->(∀i (h:i<bs.1.length) (h':i<css.length),RD E.L S1 w bs.1[i] css[i])->(∀c∈css,c.length=i.size) ->
    (∀ad,ob=some ad->∀j v,css.flatten[j]? = some v->w.cell? (ad.add j)=some v)->c<n+el.1.length->∃r w' S' φ',(Builtin.append_ #[t,t] ty #[ub,ux]).run P w=.ok r w' /\
    Rel E base S' φ' (zj { v:=.own s 0 (bs.1.length+el.1.length) i.size,new:=some (.dc i.size (bs.1++el.1)),kil:=bs.2,frz:=el.2 } dst s (clear s st)) (a.put dst r) w'/\Grow base S S' w w':=by
   intro n c ob css k1 k2 k3 k4 k5 k6 k7 k8 k9;subst k1;obtain⟨C,X,hrun,hC,hX1,hX2⟩:=zIt (P:=P) t ty e i z htu hi hz hzs hby0 k2 k3 k4 k8 (by rw[YP k7,k5]) hslc hfl2 k9 hfit
   have hbut:But w.heap.size w (w.drew.alloc (.cells X e)):=(But.drew w _).trans (But.alloc w.drew _ _);have hnS:¬S1 w.heap.size:=hR1.freshS;have hnew:=hR3.new (s:=s) (cb:=w.heap.size) (blk:=.dc i.size (bs.1++el.1)) (by simp[upd]) hR3.base hnS hbut (λb ob hb=>hR3.fresh b ob hb)
    (hblk css k5 k6 k7 (λb hb=>hbut.block b (hR1.lt b hb) (by rintro rfl;exact hnS hb)) (heap_alloc_new w.drew _) hX1)
   refine⟨_,_,S1,upd (upd φ s none) s (some w.heap.size),hrun,?_,hG1.trans (hbut.grow hR1.lt hnS hR1.base hR1.base)⟩;rw[happ];refine hnew.put dst (v:=.own s 0 (bs.1.length+el.1.length) i.size) ⟨?_,rfl⟩;have:=RA.own (L:=E.L) (S:=S1) (φ:=upd (upd φ s none) s (some w.heap.size)) (w:=w.drew.alloc (.cells X e)) s 0 (bs.1.length+el.1.length) i.size w.heap.size C (by simp[upd]) hC
    ⟨X,e,heap_alloc_new w.drew _,by simpa using hX2⟩
   simpa[vcs,Value.cells] using this
  unfold YK at hbs;split at hbs
  ·injection hbs with hbs;subst hbs
   obtain⟨ad,rfl⟩:=RV.nl (show RV E.L S w .nl ub from h1)
   refine out [] rfl rfl (Nat.le_refl _) (λ_=>rfl) rfl (by simp) (by simp) (λ_ _=>by simp) ?_
   have:el.1≠[]:=λhh=>hnil ⟨rfl,hh⟩
   have:=List.length_pos_iff.2 this;simpa using this
  ·rename_i b off len s2;split at hbs
   case isFalse=>simp at hbs
   rename_i hcond;obtain⟨rfl,rfl⟩:=hcond;split at hbs
   case h_2=>simp at hbs
   rename_i s3 xs hsl;split at hbs
   case isFalse=>simp at hbs
   rename_i hcond;obtain⟨rfl,rfl⟩:=hcond;injection hbs with hbs;subst hbs
   simp only[Bool.not_eq_true',List.contains_eq_mem,decide_eq_false_iff_not] at hok;have hslF:slot (Am.freezeL st.hp el.2) b=some ⟨false,.dc i.size xs⟩:=by rw[YT _ _ _ hok];exact hsl
   obtain⟨cb,hφ,hbase,hrb,hfz⟩:=hR1.blk b _ hslF;have hnS:¬S1 cb:=λhh=>by simpa using hfz.1 hh
   obtain⟨cells,ct,css,c1,c2,c3,c4,c5⟩:=hrb;have hcf:css.flatten.length=xs.length * i.size:=by rw[YP c4,c2]
   have hcells:∀j v,css.flatten[j]? = some v->w.cell? ((⟨cb,0,none⟩:Addr).add j)=some v:=λj v hj=>by rw[jk rfl,qX c1];simpa using YZ c5 hj
   have hslots:∀b' ob,slot (zDl (clear s { st with hp:=Am.freezeL st.hp el.2 }).hp (some b)) b'=some ob->upd φ s none b'≠some cb:=by
    intro b' ob hb';simp only[zDl] at hb';rcases Jr hb' with ⟨_,e⟩ | ⟨hne,hb'⟩
    ·cases e
    ·obtain⟨hns,ob0,h0,_⟩:=Jg hb';unfold upd;rw[if_neg hns];intro e;exact hne (hR1.inj b' b _ _ _ h0 hslF e hφ)
   rcases RA.own_inv h1 with ⟨cb',c,hφ',hcc,hroom,hub⟩ | ⟨ad,hl0,hub⟩
   ·have ecb:cb=cb':=Option.some.inj (hφ.symm.trans hφ');subst ecb;simp only[Nat.zero_mul,Nat.zero_add] at hroom hub;by_cases hin:xs.length+el.1.length<=c
    ·clear out;subst hub;obtain⟨cells',ct',c1',hsz'⟩:=hroom;rw[c1] at c1';injection c1' with c1'
     injection c1' with e1 e2 e3
     subst e1;have hle:(xs.length+el.1.length) * i.size<=c * i.size:=Nat.mul_le_mul_right _ hin;have hfit2:xs.length * i.size+css2.flatten.length<=cells.size:=by rw[hfl2,<-Nat.add_mul];omega
     have hrun:=run_app_in (P:=P) t ty e i htu hi (n:=xs.length) (c:=c) c1 hslc hfl2 hone hin hfit2;have hspl:(splice cells.toList (xs.length * i.size) css2.flatten).length=cells.toList.length:=ju (by simpa using hfit2)
     have hbut:But cb w (w.setRow cb (splice cells.toList (xs.length * i.size) css2.flatten).toArray):=But.setRow c1 (by rw[List.size_toArray,hspl];simp)
     have hnew:=hR3.new (s:=s) (cb:=cb) (blk:=.dc i.size (xs++el.1)) (by simp[upd]) hbase hnS hbut hslots
      (hblk (X:=(splice cells.toList (xs.length * i.size) css2.flatten).toArray) (ct:=ct) css c2 c3 c4 (λb hb=>hbut.block b (hR1.lt b hb) (by rintro rfl;exact hnS hb)) (setRow_heap w cb cells _ ct (0,0) c1) (by
       obtain⟨r,hr⟩:=c5;refine⟨(cells.toList.drop (xs.length * i.size+css2.flatten.length)),?_⟩;have:cells.toList.take (xs.length * i.size)=css.flatten:=by rw[<-hr,List.take_append_of_le_length (by omega),List.take_of_length_le (by omega)]
       simp[splice,this]))
     refine⟨_,_,S1,upd (upd φ s none) s (some cb),hrun,?_,hG1.trans (hbut.grow hR1.lt hnS hR1.base hbase)⟩;rw[happ];refine hnew.put dst (v:=.own s 0 (xs.length+el.1.length) i.size) ⟨?_,rfl⟩;have:=RA.own (L:=E.L) (S:=S1) (φ:=upd (upd φ s none) s (some cb)) (w:=w.setRow cb (splice cells.toList (xs.length * i.size) css2.flatten).toArray) s 0 (xs.length+el.1.length) i.size cb c (by simp[upd]) hin
      ⟨_,ct,setRow_heap w cb cells _ ct (0,0) c1,by rw[List.size_toArray,hspl];simpa using hsz'⟩
     simpa[vcs,Value.cells] using this
    ·exact out css rfl hub hcc (λhh=>by cases hh) c2 c3 c4 (λad had j v hj=>by injection had with had;subst had;exact hcells j v hj) (by show c<xs.length+el.1.length;omega)
   ·have hxn:xs=[]:=List.eq_nil_of_length_eq_zero hl0;subst hxn;have hcn:css=[]:=List.eq_nil_of_length_eq_zero c2;subst hcn;by_cases hm:el.1.length=0
    ·clear out;subst hub;have hrun:=Ql (P:=P) (w:=w) t ty e i htu hi (ad:=ad) (by rw[hm] at hslc;exact hslc) (by rw[hfl2,hm])
     have h2n:css2=[]:=List.eq_nil_of_length_eq_zero (by omega)
     have hnew:=hR3.new (w':=w) (s:=s) (cb:=cb) (blk:=.dc i.size ([]++el.1)) (by simp[upd]) hbase hnS ⟨rfl,rfl,rfl,Nat.le_refl _,λ_ _ _=>rfl,λ_ h=>h⟩ hslots
      (hblk (X:=cells) (ct:=ct) [] rfl (by simp) (by simp) (λ_ _=>rfl) c1 (by simp[h2n]))
     refine⟨_,w,S1,upd (upd φ s none) s (some cb),hrun,?_,hG1⟩;rw[happ];refine hnew.put dst (v:=.own s 0 (([]:List DV).length+el.1.length) i.size) ⟨?_,rfl⟩;have:=RA.own0 (L:=E.L) (S:=S1) (φ:=upd (upd φ s none) s (some cb)) (w:=w) s 0 i.size ad;simpa[vcs,Value.cells,hm] using this
    ·exact out (ob:=ad) (c:=0) [] rfl hub (Nat.le_refl _) (λ_=>rfl) rfl (by simp) (by simp) (λ_ _=>by simp) (by simp;omega)
  ·simp at hbs
end
end Go.Am
namespace Go.Am
open Go.Proofs
open Go Go.RowKit
section
variable{P:Program}{E:Env}{base:Nat}{S S':Nat->Prop}{φ:Nat->Option Nat}{st:St}{a:Act}{w w':World}
def zAR(E:Env)(S:Nat->Prop)(w:World)(r:CR)(v:Value)(w':World):Prop :=
 ∃S':Nat->Prop,Below w.heap.size w w'/\(∀b,S b->S' b)/\(∀b,S' b->S b\/w.heap.size<=b)/\(∀b,S' b->b<w'.heap.size) /\
  match r with
  | .val x=>RV E.L S' w' x v
  | .fresh sz xs=>∃cb,w.heap.size<=cb/\¬S' cb/\(∀φ,RB E.L S' φ w' (.dc sz xs) cb)/\∀(φ:Nat->Option Nat) s,φ s=some cb->RAV E.L S' φ w' (.own s 0 xs.length sz) v
def Enters(P:Program)(f:FuncId):Prop:=∃fn,P.funcs[f]? = some fn/\(fn.name == "runtime.NumGoroutine")=false/\fn.body.isNone=false
def jv(P:Program)(E:Env)(call:FuncId->List DV->Option CR):Prop :=
 ∀f ds r,call f ds=some r->Enters P f/\∀(S:Nat->Prop) (w:World) (vals:List Value),GlobOK E S w->(∀b,S b->b<w.heap.size)->vals.length=ds.length ->
  (∀i (h:i<ds.length) (h':i<vals.length),RV E.L S w ds[i] vals[i])->Calls P f vals.toArray w λe w'=>∃v,e=.returned v/\zAR E S w r v w'
theorem zDh{x:DV}(h:Yu x=true)(hx:x.isTup=false){cs:List Value}(hr:RD E.L S w x cs)(S':Nat->Prop)(w':World):RD E.L S' w' x cs:=by
 cases hr with
 | bool b=>exact .bool b
 | int k n=>exact .int k n
 | flt k b=>exact .flt k b
 | cpx k x y=>exact .cpx k x y
 | str s=>exact .str s
 | nl a=>exact .nl a
 | nilFn=>exact .nilFn
 | nilPtr=>exact .nilPtr
 | nilMp=>exact .nilMp
 | nilIf=>exact .nilIf
 | _=>simp[Yu] at h
theorem zGS{x:DV}(h:Yu x=true){v:Value}(hr:RV E.L S w x v)(S':Nat->Prop)(w':World):RV E.L S' w' x v:=by
 cases x with
 | tup xs =>
  obtain⟨vs,e,hl,hp⟩:=hr;refine⟨vs,e,hl,λi a b=>⟨?_,(hp i a b).2⟩⟩
  have hi:=(hp i a b).1;simp only[Yu,List.all_eq_true] at h;have hm:=h xs[i] (List.getElem_mem a);refine zDh ?_ hi.notTup hi S' w';revert hm;cases xs[i] <;> simp[Yu]
 | _=>exact⟨zDh h rfl hr.1 S' w',hr.2⟩
theorem ListOK.append{L:Nat->List Nat}{xs ys:List AV}{us vs:List Value}(h:ListOK L S φ w xs us)(k:ListOK L S φ w ys vs):ListOK L S φ w (xs++ys) (us++vs):=by
 refine⟨by simp[h.1,k.1],λi a b=>?_⟩
 by_cases hi:i<xs.length
 ·rw[List.getElem_append_left hi,List.getElem_append_left (by rw[h.1];exact hi)]
  exact h.2 i hi _
 ·rw[List.getElem_append_right (by omega),List.getElem_append_right (by rw[h.1];omega)]
  simp only[h.1];exact k.2 _ _ _
theorem zEQ{f:AV}{c:FuncId×List AV×List AV}(h:YS f=some c){u:Value}(hu:RAV E.L S φ w f u) :
  ∃v1 v2:List Value,u=.func (.func c.1) v1.toArray v2.toArray/\ListOK E.L S φ w c.2.1 v1/\ListOK E.L S φ w c.2.2 v2:=by
 unfold YS at h;split at h
 ·rename_i f' x y;injection h with h;subst h
  obtain⟨hr,ha⟩:=(hu:RV E.L S w (.fn f' x y) u);rw[z6 ha] at hr;cases hr with
  | fn _ _ _ vx vy hx hy h1 h2 h3 h4 =>
   refine⟨vx,vy,rfl,⟨by simpa using hx,λi a b=>?_⟩,⟨by simpa using hy,λi a b=>?_⟩⟩
   ·simp only[List.getElem_map];have:=h1 i (by simpa using a) b
    exact RV.of this.notTup this (h2 i (by simpa using a) b)
   ·simp only[List.getElem_map];have:=h3 i (by simpa using a) b
    exact RV.of this.notTup this (h4 i (by simpa using a) b)
 ·rename_i f' x y;injection h with h;subst h
  obtain⟨hr,ha⟩:=hu;rw[z6 ha] at hr;cases hr with
  | fn _ _ _ vx vy hx hy h1 h2 h3 h4 =>
   exact⟨vx,vy,rfl,⟨hx,λi a b=>RAV.of (h1 i a b) (h2 i a b)⟩,⟨hy,λi a b=>RAV.of (h3 i a b) (h4 i a b)⟩⟩
 ·simp at h
theorem zAf(h:Rel E base S φ st a w):∀(vs:List AV) (us:List Value) (ds:List DV),JV st.hp vs=some ds->ListOK E.L S φ w vs us ->
  ds.length=vs.length/\∀i (h:i<ds.length) (h':i<us.length),RV E.L (Plus S φ st.hp (jR st.hp vs)) w ds[i] us[i]
 | [],us,ds,hs,hl=>by
  simp[JV] at hs;subst hs;exact⟨rfl,λi a=>by simp at a⟩
 | v :: vs,[],ds,hs,hl=>absurd hl.1 (by simp)
 | v :: vs,u :: us,ds,hs,hl=>by
  simp only[JV] at hs;obtain⟨x,hx,hs⟩:=zA hs;obtain⟨xs,hxs,hs⟩:=zA hs;injection hs with hs;subst hs
  have h0:=hl.2 0 (by simp) (by simp)
  obtain⟨h1,h2⟩:=zAf h vs us xs hxs ⟨by simpa using hl.1,λi a b=>hl.2 (i+1) (by simp;omega) (by simp;omega)⟩
  refine⟨by simp[h1],λi a b=>?_⟩
  cases i with
  | zero=>exact RV.mono (snapV h hx h0) (Plus.mono λs hs=>by simp[jR,hs]) λ_ _=>rfl
  | succ i=>exact RV.mono (h2 i (by simpa using a) (by simpa using b)) (Plus.mono λs hs=>by simp[jR,hs]) λ_ _=>rfl
def Post(E:Env)(base:Nat)(S:Nat->Prop)(w:World)(st':St)(a':Act)(w':World):Prop:=∃S' φ',Rel E base S' φ' st' a' w'/\Grow base S S' w w'
theorem Rel.res(h:Rel E base S φ st a w){S2:Nat->Prop}(hb:Below w.heap.size w w')(h1:∀b,S b->S2 b)(h2:∀b,S2 b->S b\/w.heap.size<=b)(h3:∀b,S2 b->b<w'.heap.size) :
  Rel E base S2 φ st a w'/\Grow base S S2 w w':=by
 have g:Grow base S S2 w w':=⟨hb.mono h.base,h1,λb hb'=>(h2 b hb').imp id λhh=>Nat.le_trans h.base hh,λb hb'=>hb.block b (h.lt b hb')⟩
 exact⟨h.world g h3 (λb hlt hn hs=>(h2 b hs).elim hn λhh=>by omega) hb.block,g⟩
theorem zJB(h:Rel E base S φ st a w){call:FuncId->List DV->Option CR}(hc:jv P E call){s:Nat}{f:AV}{args:List AV}{uf:Value}{us:List Value}(hf:RAV E.L S φ w f uf)(hu:ListOK E.L S φ w args us)
  {ef:Eff} (he:qe call s st.hp f args=some ef) (dst:Option Tmp) {st':St}
  (hst:(match ef.new with
   | none=>some (zj ef dst s st)
   | some b=>zm (dst.isSome && zh s b) (some (zj ef dst s (clear s st))))=some st') :
  ∃(g:FuncId) (v1 v2:List Value),uf=.func (.func g) v1.toArray v2.toArray/\Enters P g/\Calls P g (v1++us++v2).toArray w λe w'=>∃v,e=.returned v/\Post E base S w st' (a.put dst v) w':=by
 unfold qe at he;obtain⟨c,hcl,he1⟩:=zA he;clear he;obtain⟨ds,hds,he2⟩:=zA he1;clear he1;obtain⟨r,hr,he3⟩:=zA he2;clear he2;injection he3 with he3;subst he3
 obtain⟨v1,v2,rfl,hl1,hl2⟩:=zEQ hcl hf;have hl:=(hl1.append hu).append hl2;obtain⟨hdl,hrv⟩:=zAf h _ _ _ hds hl;obtain⟨hent,hcall⟩:=hc c.1 ds r hr;obtain⟨S1,hR1,hG1,hS1⟩:=h.freezeL (jR st.hp (c.2.1++args++c.2.2));refine⟨c.1,v1,v2,rfl,hent,?_⟩;refine Calls.mono (hcall S1 w (v1++us++v2) hR1.glob hR1.lt (by rw[hl.1,hdl]) (λi a b=>RV.mono (hrv i a b) (λx hx=>(hS1 x).2 hx) λ_ _=>rfl)) λe w' hres=>?_
 obtain⟨v,rfl,S2,hb,k1,k2,k3,hv⟩:=hres;refine⟨v,rfl,?_⟩;generalize hss:jR st.hp (c.2.1++args++c.2.2)=ss at *
 cases r with
 | val x =>
  simp only at hv;by_cases hm:Yu x=true/\ss≠[]
  ·have hfz:(deliver s ss (.val x))={ v:=.d x }:=by
    simp only[deliver];cases ss with
    | nil=>exact absurd rfl hm.2
    | cons b ss=>simp[hm.1]
   rw[hfz] at hst;injection hst with hst;subst hst
   obtain⟨hR,hG⟩:=h.res (S2:=S) hb (λ_ h=>h) (λ_ h=>.inl h) (λb hb'=>Nat.lt_of_lt_of_le (h.lt b hb') hb.size)
   exact⟨S,φ,hR.put dst (v:=.d x) (zGS hm.1 hv S w'),hG⟩
  ·have hfz:(deliver s ss (.val x))={ v:=.d x,frz:=ss }:=by
    simp only[deliver];cases ss with
    | nil=>rfl
    | cons b ss =>
     have:Yu x=false:=by
      cases h:Yu x with
      | false=>rfl
      | true=>exact absurd ⟨h,by simp⟩ hm
     simp[this]
   rw[hfz] at hst;injection hst with hst;subst hst
   obtain⟨hR,hG⟩:=hR1.res hb k1 k2 k3;exact⟨S2,φ,hR.put dst (v:=.d x) hv,hG1.trans hG⟩
 | fresh sz xs =>
  simp only[deliver] at hst;obtain⟨hgd,hst⟩:=zE hst;injection hst with hst;subst hst
  obtain⟨cb,hcb,hnS,hrb,hva⟩:=hv;obtain⟨hR,hG⟩:=hR1.res hb k1 k2 k3;have hR2:=hR.clear s;have hnew:=hR2.new (w':=w') (s:=s) (cb:=cb) (blk:=.dc sz xs) (by simp[upd]) (Nat.le_trans h.base hcb) hnS ⟨rfl,rfl,rfl,Nat.le_refl _,λ_ _ _=>rfl,λ_ h=>h⟩ (λb ob hb'=>by
   obtain⟨hns,ob0,h0,_⟩:=Jg hb';unfold upd;rw[if_neg hns];obtain⟨c',hc',_,hr',_⟩:=hR1.blk b ob0 h0;rw[hc'];intro e;injection e with e
   have:=hr'.lt;omega) (hrb _)
  refine⟨S2,upd (upd φ s none) s (some cb),?_,hG1.trans hG⟩;have happ:zj { v:=.own s 0 xs.length sz,new:=some (.dc sz xs),frz:=ss } dst s (clear s st) =
    { tm:=jh (clear s { st with hp:=Am.freezeL st.hp ss }).tm dst (.own s 0 xs.length sz),hp:=((clear s { st with hp:=Am.freezeL st.hp ss }).hp).set s (some ⟨false,.dc sz xs⟩) }:=by
   simp only[zj,zCh,zDl,clear,qj]
  rw[happ];exact hnew.put dst (v:=.own s 0 xs.length sz) (hva _ s (by simp[upd]))
end
end Go.Am
namespace Go.Am
open Go.Proofs
open Go Go.RowKit
section
variable{P:Program}{E:Env}{base:Nat}{S S':Nat->Prop}{φ:Nat->Option Nat}{st:St}{a:Act}{w w':World}
theorem Done.wp{st':St}{o:Oper}{Q:Exit->Act->World->Prop}(h:Done E base S st' a o.dst w ((execOp a.eval o).run P w)):o.wp P a w (Post E base S w st') Q:=by
 obtain⟨n,u,w',S',φ',hr,hn,hR,hG⟩:=h;unfold Oper.wp;rw[hr];rcases hn with rfl | ⟨rfl,rfl⟩
 ·exact⟨S',φ',hR,hG⟩
 ·exact⟨S',φ',hR,hG⟩
theorem Rel.alloc(h:Rel E base S φ st a w)(o:Obj):Rel E base S φ st a (w.alloc o)/\Grow base S S w (w.alloc o) :=
 h.res (Below.alloc (Below.refl _ w) (Nat.le_refl _) o) (λ_ h=>h) (λ_ h=>.inl h) (λb hb=>Nat.lt_of_lt_of_le (h.lt b hb) (by simp))
theorem Rel.drew(h:Rel E base S φ st a w):Rel E base S φ st a w.drew/\Grow base S S w w.drew :=
 h.res (Below.drew (Below.refl _ w)) (λ_ h=>h) (λ_ h=>.inl h) (λb hb=>h.lt b hb)
theorem Qq{st':St}{o:Oper}{v:AV}{u:Value}(h:Rel E base S φ st a w)(hr:(execOp a.eval o).run P w=.ok (.value u) w)(hv:RAV E.L S φ w v u)
  (hst:some (zj { v } o.dst (zW o) st)=some st'):Done E base S st' a o.dst w ((execOp a.eval o).run P w):=by
 injection hst with hst;subst hst
 exact⟨_,u,w,S,φ,hr,.inl rfl,h.put o.dst hv,Grow.refl⟩
theorem zEU(hD:DOK P E){call:FuncId->List DV->Option CR}(hc:jv P E call)(h:Rel E base S φ st a w){o:Oper}{st':St}(hs:YN E call o st=some st'){Q:Exit->Act->World->Prop} :
  o.wp P a w (Post E base S w st') Q:=by
 unfold YN at hs;obtain⟨ef,he,hs1⟩:=zA hs;clear hs;obtain⟨hok,hst⟩:=zE hs1;clear hs1;by_cases hp:zIQ o.op=true
 ·obtain⟨v,u,rfl,hr,hv⟩:=pure_sound hD h.ev hp he;exact(Qq h (hr w) hv hst).wp
 cases ho:o.op <;> simp only[ho,zIQ] at hp <;> try (simp at hp;done)
 all_goals simp only[ho,jY] at he
 all_goals try (simp at he;done)
 case alloc t =>
  exact(NewTo.done h (zH2 hD h.lt he) (by simp only[execOp,ho]) hst).wp
 case box t x =>
  obtain⟨v,hv,he1⟩:=zA he;exact(NewTo.done h (boxE_sound hD h.lt (h.ev x v hv) he1) (by simp only[execOp,ho]) hst).wp
 case buildSlice t n ps =>
  obtain⟨vs,hv,he1⟩:=zA he;have hps:=qm h.ev _ _ hv;rcases zBy (us:=ps.map λ(i,x)=>(i,a.eval x)) hD h.lt he1 (by simpa using hps) with hn | ⟨rfl,u,ob,hr,hrv⟩
  ·exact(NewTo.done h hn (by simp only[execOp,ho]) hst).wp
  ·injection hst with hst;subst hst
   obtain⟨hR,hG⟩:=h.alloc ob;refine Done.wp ⟨.value u,u,w.alloc ob,S,φ,?_,.inl rfl,hR.put o.dst (v:=.d .nl) (hrv _),hG⟩;simp only[execOp,ho,Sem.run_bind,hr,Result.andThen_ok,Sem.run_pure]
 case load t x =>
  obtain⟨v,hv,he1⟩:=zA he;obtain⟨r,u,rfl,hr,hrv⟩:=qc hD h (h.ev x v hv) he1;exact(Qq h (by simp only[execOp,ho,Sem.run_bind,hr,Result.andThen_ok,Sem.run_pure]) hrv hst).wp
 case store t x y =>
  obtain⟨v,hv,he1⟩:=zA he;obtain⟨v2,hv2,he2⟩:=zA he1;obtain⟨hn,w',hr,hR,hG⟩:=zHj hD h (h.ev x v hv) (h.ev y v2 hv2) he2 o.dst (zW o);rw[hn] at hst;injection hst with hst;subst hst
  refine Done.wp ⟨.skip,undef,w',S,φ,?_,.inr ⟨rfl,rfl⟩,hR,hG⟩;simp only[execOp,ho,Sem.run_bind,hr,Result.andThen_ok,Sem.run_pure]
 case makeMap t r =>
  cases r with
  | some r=>simp at he
  | none =>
   simp only at he;obtain⟨td,htd,he1⟩:=zA he;split at he1
   ·injection he1 with he1;subst he1
    exact(NewTo.done h (zEI (t:=t)) (by simp only[execOp,ho,Option.map_none]) hst).wp
   ·simp at he1
 case makeSlice t x y =>
  obtain⟨v,hv,he1⟩:=zA he;obtain⟨v2,hv2,he2⟩:=zA he1;exact(NewTo.done h (zCo hD h.lt (h.ev x v hv) (h.ev y v2 hv2) he2) (by simp only[execOp,ho]) hst).wp
 case lookup t m k ok =>
  obtain⟨v,hv,he1⟩:=zA he;obtain⟨v2,hv2,he2⟩:=zA he1;obtain⟨r,u,rfl,hr,hrv⟩:=zGT hD h (h.ev m v hv) (h.ev k v2 hv2) he2;exact(Qq h (by simp only[execOp,ho,Sem.run_bind,hr,Result.andThen_ok,Sem.run_pure]) hrv hst).wp
 case mapUpdate t m k x =>
  obtain⟨v,hv,he1⟩:=zA he;obtain⟨v2,hv2,he2⟩:=zA he1;obtain⟨v3,hv3,he3⟩:=zA he2;obtain⟨hn,w',hr,hR,hG⟩:=qy hD h (h.ev m v hv) (h.ev k v2 hv2) (h.ev x v3 hv3) he3 o.dst (zW o);rw[hn] at hst;injection hst with hst;subst hst
  refine Done.wp ⟨.skip,undef,w',S,φ,?_,.inr ⟨rfl,rfl⟩,hR,hG⟩;simp only[execOp,ho,Sem.run_bind,hr,Result.andThen_ok,Sem.run_pure]
 case insert t m k x =>
  obtain⟨v,hv,he1⟩:=zA he;obtain⟨v2,hv2,he2⟩:=zA he1;obtain⟨v3,hv3,he3⟩:=zA he2;obtain⟨hn,w',hr,hR,hG⟩:=qy hD h (h.ev m v hv) (h.ev k v2 hv2) (h.ev x v3 hv3) he3 o.dst (zW o);rw[hn] at hst;injection hst with hst;subst hst
  refine Done.wp ⟨.skip,undef,w',S,φ,?_,.inr ⟨rfl,rfl⟩,hR,hG⟩;simp only[execOp,ho,Sem.run_bind,hr,Result.andThen_ok,Sem.run_pure]
 case range t x =>
  obtain⟨td,htd,he1⟩:=zA he;split at he1
  case h_2=>simp at he1
  rename_i hk;obtain⟨v,hv,he2⟩:=zA he1;exact(NewTo.done h (zHo (h.ev x v hv) hD htd hk he2) (by simp only[execOp,ho]) hst).wp
 case next x b =>
  obtain⟨v,hv,he1⟩:=zA he;obtain⟨hn,r,w',hr,hR,hG⟩:=zIy (P:=P) h (h.ev x v hv) he1 o.type o.dst (zW o);rw[hn] at hst;injection hst with hst;subst hst
  refine Done.wp ⟨.value r,r,w',S,φ,?_,.inl rfl,hR,hG⟩;simp only[execOp,ho,Sem.run_bind,hr,Result.andThen_ok,Sem.run_pure]
 case call c =>
  obtain⟨vs,hv,he1⟩:=zA he;have hl:=zIZ h.ev hv;cases hcc:c.callee with
  | invoke r m=>rw[hcc] at he1;simp at he1
  | builtin b =>
   simp only[hcc] at hp;rw[hcc] at he1;have hrun:(execOp a.eval o).run P w=(builtin b c.argTypes o.type (c.args.map λ| .const _=>true | _=>false) (c.args.toList.map a.eval).toArray).run P w:=by simp only[execOp,ho,resolve,hcc,<-amap];simp[invoke];rfl
   cases b <;> try (simp at he1 hp;done)
   case append =>
    obtain⟨r,w',S',φ',hr,hR,hG⟩:=zGd hD h hl he1 hok o.type o.dst hst;refine Done.wp ⟨.value r,r,w',S',φ',?_,.inl rfl,hR,hG⟩;rw[hrun];simp only[builtin,Sem.run_bind,hr,Result.andThen_ok,Sem.run_pure]
   case copy =>
    obtain⟨hn,r,w',S',hr,hR,hG⟩:=zI6 hD h hl he1 hok o.type o.dst (zW o);rw[hn] at hst;injection hst with hst;subst hst
    refine Done.wp ⟨.value r,r,w',S',φ,?_,.inl rfl,hR,hG⟩;rw[hrun];simp only[builtin,Sem.run_bind,hr,Result.andThen_ok,Sem.run_pure]
   case len =>
    obtain⟨v,r,rfl,hr,hrv⟩:=lenE_sound hD h hl he1 o.type;exact(Qq h (by rw[hrun];simp only[builtin,Sem.run_bind,hr,Result.andThen_ok,Sem.run_pure]) hrv hst).wp
  | value f =>
   rw[hcc] at he1;simp only at he1;obtain⟨vf,hvf,he2⟩:=zA he1;obtain⟨g,v1,v2,hu,⟨fn,hf,hname,hbody⟩,hcalls⟩:=zJB h hc (h.ev f vf hvf) hl he2 o.dst hst;have hrun:(execOp a.eval o).run P w=.ok (.enter g (v1++c.args.toList.map a.eval++v2).toArray) w:=by
    have e1:(c.args.map a.eval)=(c.args.toList.map a.eval).toArray:=amap _ _;have hn1:¬fn.name="runtime.NumGoroutine":=by simpa using hname
    have hb1:¬fn.body=none:=by intro e;rw[e] at hbody;simp at hbody
    simp[execOp,ho,resolve,hcc,hu,Deferred.ofValue,invoke,callFunc,hf,hn1,hb1,e1]
   unfold Oper.wp;rw[hrun,Oper.upon_enter];refine Calls.mono hcalls λe w' hh=>?_
   obtain⟨v,rfl,hP⟩:=hh;exact hP
theorem zB7{ops:Array Oper}{o:Oper}{tm:List AV}(h:TmOK E.L S φ w tm a){g:Bool}(hg:jc ops.toList o tm=some g):Region.wanted o (yielded ops a.tmps)=g:=by
 unfold jc at hg;unfold Region.wanted;cases hgd:o.guard with
 | none=>rw[hgd] at hg;injection hg with hg
 | some p =>
  obtain⟨j,want⟩:=p;rw[hgd] at hg;simp only at hg ⊢;split at hg
  case h_2=>simp at hg
  rename_i q hq;split at hg
  case h_2=>simp at hg
  rename_i t ht;have hy:yielded ops a.tmps j=match a.tmps[t]? with | some (.bool b)=>some b | _=>none:=by unfold yielded;rw[<-Array.getElem?_toList,hq];simp[ht];rfl
  split at hg
  ·rename_i b hb;injection hg with hg;subst hg
   obtain⟨u,hu,hr⟩:=h t _ hb;have:=RV.bool (show RV E.L S w (.bool b) u from hr)
   subst this;rw[hy,hu];cases b <;> cases want <;> rfl
  ·rename_i hb;injection hg with hg;subst hg
   obtain⟨u,hu,hr⟩:=h t _ hb;obtain⟨vs,rfl,_⟩:=(show RV E.L S w (.tup []) u from hr)
   rw[hy,hu];rfl
  ·simp at hg
theorem Rel.skip(h:Rel E base S φ st a w)(dst:Option Tmp):Rel E base S φ { st with tm:=jh st.tm dst (.d (.tup [])) } (a.put dst undef) w :=
 h.put dst (v:=.d (.tup [])) ⟨[],rfl,rfl,λi a=>by simp at a⟩
theorem Y1(hD:DOK P E){call:FuncId->List DV->Option CR}(hc:jv P E call){ops:Array Oper}{K:St->Option CR}{r:CR}{Q:Exit->Act->World->Prop} :
  ∀(rest:List Oper) (i:Nat) {S:Nat->Prop} {φ:Nat->Option Nat} {st:St} {a:Act} {w:World},rest=ops.toList.drop i->i<=ops.size->QT (YN E call) ops.toList rest st K=some r->Rel E base S φ st a w ->
   (∀st' S' φ' a' w',K st'=some r->Rel E base S' φ' st' a' w'->Grow base S S' w w'->Q .normal a' w')->wpOps P ops Q (List.range' i (ops.size - i)) a w
 | [],i,S,φ,st,a,w,hr,hi,h,hR,hK=>by
  have:ops.size - i=0:=by have:=congrArg List.length hr;simp at this;omega
  rw[this];exact hK st S φ a w h hR Grow.refl
 | o :: rest,i,S,φ,st,a,w,hr,hi,h,hR,hK=>by
  have hlt:i<ops.size:=by have:=congrArg List.length hr;simp at this;omega
  have hcons:ops.toList.drop i=ops.toList[i] :: ops.toList.drop (i+1):=List.drop_eq_getElem_cons (by simpa using hlt)
  rw[hcons] at hr;injection hr with ho hrest
  have hoi:ops[i]? = some o:=by rw[ho];simp[hlt]
  have hn:ops.size - i=(ops.size - (i+1))+1:=by omega
  rw[hn,List.range'_succ];simp only[QT] at h;obtain⟨g,hg,h⟩:=zA h;have hw:=zB7 hR.tm hg;simp only[wpOps,hoi,hw];cases g with
  | true =>
   obtain⟨st',hs,h⟩:=zA h;refine .inl (Oper.wp_mono (λa' w' hp=>?_) (zEU hD hc hR hs))
   obtain⟨S',φ',hR',hG⟩:=hp;exact Y1 hD hc rest (i+1) hrest hlt h hR' λst2 S2 φ2 a2 w2 k1 k2 k3=>hK st2 S2 φ2 a2 w2 k1 k2 (hG.trans k3)
  | false =>
   exact Y1 hD hc rest (i+1) hrest hlt h (hR.skip o.dst) λst2 S2 φ2 a2 w2 k1 k2 k3=>hK st2 S2 φ2 a2 w2 k1 k2 k3
end
end Go.Am
namespace Go.Am
open Go.Proofs
open Go Go.RowKit
section
variable{E:Env}{s:Nat}
theorem jl{l:List AV}(h:jM s l=true){v:AV}(hv:v∈l):zf s v=true:=by
 induction l with
 | nil=>simp at hv
 | cons x r ih =>
  simp only[jM,Bool.and_eq_true] at h;rcases List.mem_cons.1 hv with rfl | hv
  ·exact h.1
  ·exact ih h.2 hv
theorem Y7{l:List AV}(h:∀v∈l,zf s v=true):jM s l=true:=by
 induction l with
 | nil=>rfl
 | cons x r ih=>simp only[jM,Bool.and_eq_true];exact⟨h x (by simp),ih λv hv=>h v (by simp[hv])⟩
theorem qS(xs:List DV):jM s (xs.map .d)=true:=Y7 λv hv=>by obtain⟨x,_,rfl⟩:=List.mem_map.1 hv;rfl
theorem zDf{tag:Nat}{fs:List AV}(h:jM s fs=true):zf s (zGl tag fs)=true:=by unfold zGl;split <;> first | rfl | exact h
theorem noRef_mkFn{f:FuncId}{x y:List AV}(h:jM s x=true)(k:jM s y=true):zf s (mkFn f x y)=true:=by
 unfold mkFn;split
 ·rfl
 ·simp only[zf,h,k,Bool.and_true]
theorem zB4{sz:Nat}{vs:List AV}(h:jM s vs=true):zh s (zGk sz vs)=true:=by unfold zGk;split <;> first | rfl | exact h
theorem Qy{tag i:Nat}{v x:AV}(h:zBm tag i v=some x)(hv:zf s v=true):zf s x=true:=by
 unfold zBm at h;split at h
 ·split at h
  ·split at h
   ·injection h with h;subst h;rfl
   ·simp at h
  ·simp at h
 ·split at h
  ·exact jl (by simpa[zf] using hv) (List.mem_of_getElem? h)
  ·simp at h
 ·simp at h
theorem Qx:∀(p:List (Nat×Nat)) {v x:AV},zDo p v=some x->zf s v=true->zf s x=true
 | [],v,x,h,hv=>by simp[zDo] at h;subst h;exact hv
 | (tag,i) :: p,v,x,h,hv=>by
  simp only[zDo] at h;split at h
  ·rename_i y hy;exact Qx p h (Qy hy hv)
  ·simp at h
theorem qG{l:List AV}{i:Nat}{v:AV}(h:jM s l=true)(hv:zf s v=true):jM s (l.set i v)=true :=
 Y7 λx hx=>by
  rcases List.mem_or_eq_of_mem_set hx with hx | rfl
  ·exact jl h hx
  ·exact hv
theorem noRef_setF{tag i:Nat}{new v x:AV}(h:setF tag i new v=some x)(hn:zf s new=true)(hv:zf s v=true):zf s x=true:=by
 unfold setF at h;split at h
 ·split at h
  ·split at h
   ·split at h
    ·injection h with h;subst h;rfl
    ·injection h with h;subst h;exact qG (qS _) hn
   ·simp at h
  ·simp at h
 ·split at h
  ·split at h
   ·injection h with h;subst h;exact zDf (qG (by simpa[zf] using hv) hn)
   ·simp at h
  ·simp at h
 ·simp at h
theorem zEl{L:Nat->List Nat}:∀(p:List (Nat×Nat)) {new v x:AV},zG3 L p new v=some x->zf s new=true->zf s v=true->zf s x=true
 | [],new,v,x,h,hn,hv=>by simp[zG3] at h;subst h;exact hn
 | (tag,i) :: p,new,v,x,h,hn,hv=>by
  simp only[zG3] at h;split at h
  case h_2=>simp at h
  rename_i y hy;split at h
  case h_2=>simp at h
  rename_i z hz;split at h
  ·exact noRef_setF h (zEl p hz hn (Qy hy hv)) hv
  ·simp at h
theorem zAy{sz e:Nat}{blk:Blk}{v:AV}(h:blk.get sz e=some v)(hb:zh s blk=true):zf s v=true:=by
 unfold Blk.get at h;split at h
 ·split at h
  ·split at h
   ·injection h with h;subst h;rfl
   ·simp at h
  ·simp at h
 ·split at h
  ·exact jl (by simpa[zh] using hb) (List.mem_of_getElem? h)
  ·simp at h
 ·simp at h
theorem noRefB_set{sz e:Nat}{blk blk':Blk}{v:AV}(h:blk.set sz e v=some blk')(hb:zh s blk=true)(hv:zf s v=true):zh s blk'=true:=by
 unfold Blk.set at h;split at h
 ·split at h
  ·split at h
   ·split at h
    ·injection h with h;subst h;rfl
    ·injection h with h;subst h;exact qG (qS _) hv
   ·simp at h
  ·simp at h
 ·split at h
  ·split at h
   ·injection h with h;subst h;exact qG (by simpa[zh] using hb) hv
   ·simp at h
  ·simp at h
 ·simp at h
theorem zBf{L:Nat->List Nat}{sizes:List Nat}:∀{ps:List (Nat×AV)} {vs r:List AV},fill L sizes ps vs=some r->(∀p∈ps,zf s p.2=true)->jM s vs=true->jM s r=true
 | [],vs,r,h,_,hv=>by simp[fill] at h;subst h;exact hv
 | (i,v) :: ps,vs,r,h,hp,hv=>by
  simp only[fill] at h;split at h
  ·exact zBf h (λp hm=>hp p (by simp[hm])) (qG hv (hp (i,v) (by simp)))
  ·simp at h
theorem zDW{hp:List (Option OB)}(hh:∀b ob,slot hp b=some ob->zh s ob.blk=true):∀(n:Nat) (v:AV),zf s v=true->s ∉ sites hp n v:=by
 intro n;induction n with
 | zero =>
  intro v hv;cases v <;> simp only[sites,zf] at * <;> simp_all
  all_goals (intro e;subst e;simp at hv)
 | succ n ih =>
  intro v hv;cases v with
  | d x=>simp[sites]
  | undef=>simp[sites]
  | omp b=>simp only[zf] at hv;simp only[sites,List.mem_singleton];intro e;subst e;simp at hv
  | it b=>simp only[zf] at hv;simp only[sites,List.mem_singleton];intro e;subst e;simp at hv
  | own b off len sz =>
   simp only[zf,Bool.not_eq_true',beq_eq_false_iff_ne] at hv;simp only[sites,List.mem_cons,not_or];refine⟨λe=>hv e.symm,?_⟩
   split
   ·rename_i z t xs hsl;intro hm;obtain⟨x,hx,hm⟩:=List.mem_flatMap.1 hm;have hb:=hh b _ hsl;simp only[zh] at hb;exact ih x (jl hb (List.mem_of_mem_drop (List.mem_of_mem_take hx))) hm
   ·simp
  | ptr b sz e p =>
   simp only[zf,Bool.not_eq_true',beq_eq_false_iff_ne] at hv;simp only[sites,List.mem_cons,not_or];refine⟨λe=>hv e.symm,?_⟩
   split
   ·rename_i ob hsl;split
    ·rename_i v hvg;split
     ·rename_i x hx;exact ih x (Qx p hx (zAy hvg (hh b ob hsl)))
     ·simp
    ·simp
   ·simp
  | agg t fs =>
   simp only[zf] at hv;simp only[sites];intro hm;obtain⟨x,hx,hm⟩:=List.mem_flatMap.1 hm;exact ih x (jl hv hx) hm
  | fn f x y =>
   simp only[zf,Bool.and_eq_true] at hv;simp only[sites,List.mem_append,not_or];constructor
   ·intro hm;obtain⟨z,hz,hm⟩:=List.mem_flatMap.1 hm;exact ih z (jl hv.1 hz) hm
   ·intro hm;obtain⟨z,hz,hm⟩:=List.mem_flatMap.1 hm;exact ih z (jl hv.2 hz) hm
theorem zB0{hp:List (Option OB)}(hh:∀b ob,slot hp b=some ob->zh s ob.blk=true):∀(vs:List AV),(∀v∈vs,zf s v=true)->s ∉ jR hp vs
 | [],_=>by simp[jR]
 | v :: vs,h=>by simp only[jR,List.mem_append,not_or];exact⟨zDW hh _ v (h v (by simp)),zB0 hh vs λx hx=>h x (by simp[hx])⟩
structure Eff.off(s:Nat)(ef:Eff):Prop where
 v:zf s ef.v=true
 new:∀b,ef.new=some b->zh s b=true
 upd:∀b k,ef.upd=some (b,k)->b≠s/\zh s k=true
 kil:ef.kil≠some s
 frz:s ∉ ef.frz
theorem zn{v:AV}(h:zf s v=true):Eff.off s { v }:=⟨h,by simp,by simp,by simp,by simp⟩
theorem zCs{tm:List AV}:∀{xs:List Operand} {vs:List AV},evL E tm xs=some vs->∀v∈vs,∃x∈xs,evO E tm x=some v
 | [],vs,h,v,hv=>by simp[evL] at h;subst h;simp at hv
 | x :: xs,vs,h,v,hv=>by
  simp only[evL] at h;obtain⟨y,hy,h⟩:=zA h;obtain⟨ys,hys,h⟩:=zA h;injection h with h;subst h
  rcases List.mem_cons.1 hv with rfl | hv
  ·exact⟨x,by simp,hy⟩
  ·obtain⟨z,hz,e⟩:=zCs hys v hv;exact⟨z,by simp[hz],e⟩
theorem zAn{tm:List AV}:∀{ps:List (Nat×Operand)} {vs:List (Nat×AV)},JO E tm ps=some vs->∀p∈vs,∃q∈ps,evO E tm q.2=some p.2
 | [],vs,h,v,hv=>by simp[JO] at h;subst h;simp at hv
 | (i,x) :: xs,vs,h,v,hv=>by
  simp only[JO] at h;obtain⟨y,hy,h⟩:=zA h;obtain⟨ys,hys,h⟩:=zA h;injection h with h;subst h
  rcases List.mem_cons.1 hv with rfl | hv
  ·exact⟨(i,x),by simp,hy⟩
  ·obtain⟨z,hz,e⟩:=zAn hys v hv;exact⟨z,by simp[hz],e⟩
theorem zBO{hp:List (Option OB)}(hh:∀b ob,slot hp b=some ob->zh s ob.blk=true){sz:Nat}{v:AV}{el:List DV×List Nat}(h:jX hp sz v=some el):s ∉ el.2:=by
 unfold jX at h;split at h
 ·injection h with h;subst h;simp
 ·split at h
  ·injection h with h;subst h;simp
  ·simp at h
 ·split at h
  ·split at h
   ·split at h
    ·injection h with h;subst h;simp
    ·simp at h
   ·rename_i hsl;split at h
    ·split at h
     ·injection h with h;subst h
      intro hm;obtain⟨x,hx,hm⟩:=List.mem_flatMap.1 hm;have hb:=hh _ _ hsl;simp only[zh] at hb;exact zDW hh _ x (jl hb (List.mem_of_mem_drop (List.mem_of_mem_take hx))) hm
     ·simp at h
    ·simp at h
   ·simp at h
  ·simp at h
 ·simp at h
end
end Go.Am
namespace Go.Am
open Go.Proofs
open Go Go.RowKit
theorem noRef_ne{b s:Nat}{sz e:Nat}{p:List (Nat×Nat)}(h:zf s (.ptr b sz e p)=true):b≠s:=by simpa[zf] using h
section
variable{E:Env}{s:Nat}{hp:List (Option OB)}
theorem zBC{v:AV}{blk:Blk}(h:zf s v=true)(hb:zh s blk=true):Eff.off s { v,new:=some blk } :=
 ⟨h,λb e=>by injection e with e;subst e;exact hb,by simp,by simp,by simp⟩
theorem zH8{v:AV}{b:Nat}{blk:Blk}(h:zf s v=true)(hb:b≠s)(hk:zh s blk=true):Eff.off s { v,upd:=some (b,blk) } :=
 ⟨h,by simp,λb' k e=>by injection e with e;injection e with e1 e2;subst e1;subst e2;exact⟨hb,hk⟩,by simp,by simp⟩
theorem off_loadE(hh:∀b ob,slot hp b=some ob->zh s ob.blk=true){t:TypeId}{a:AV}(ha:zf s a=true){ef:Eff}(h:JJ E t hp a=some ef):Eff.off s ef:=by
 unfold JJ at h;obtain⟨td,_,h⟩:=zA h;split at h
 ·obtain⟨_,h⟩:=zE h;simp[zc] at h;subst h;exact zn rfl
 ·obtain⟨ob,hob,h⟩:=zA h;obtain⟨v,hv,h⟩:=zA h;obtain⟨x,hx,h⟩:=zA h;obtain⟨_,h⟩:=zE h;simp[zc] at h;subst h;exact zn (Qx _ hx (zAy hv (hh _ ob hob)))
 ·simp at h
theorem off_storeE(hh:∀b ob,slot hp b=some ob->zh s ob.blk=true){t:TypeId}{a x:AV}(ha:zf s a=true)(hx:zf s x=true){ef:Eff}(h:J8 E t hp a x=some ef):Eff.off s ef:=by
 unfold J8 at h;obtain⟨td,_,h⟩:=zA h;split at h
 ·obtain⟨ob,hob,h⟩:=zA h;obtain⟨_,h⟩:=zE h;obtain⟨_,h⟩:=zE h;obtain⟨v,hv,h⟩:=zA h;obtain⟨y,hy,h⟩:=zA h;obtain⟨_,h⟩:=zE h;obtain⟨blk,hb,h⟩:=zA h;injection h with h;subst h
  have hvr:=zAy hv (hh _ ob hob);exact zH8 rfl (noRef_ne ha) (noRefB_set hb (hh _ ob hob) (zEl _ hy hx hvr))
 ·simp at h
theorem off_build{t:TypeId}{ps:List (Nat×AV)}(hp:∀p∈ps,zf s p.2=true){ef:Eff}(h:zAQ E t ps=some ef):Eff.off s ef:=by
 have key:∀{tag:Nat} {z:DV},Qg E tag z ps=some ef->Eff.off s ef:=by
  intro tag z h;unfold Qg at h;split at h
  ·split at h
   ·obtain⟨fs,hf,h⟩:=zA h;simp[zc] at h;subst h;exact zn (zDf (zBf hf hp (qS _)))
   ·simp at h
  ·simp at h
 unfold zAQ at h;obtain⟨td,_,h⟩:=zA h;split at h
 ·exact key h
 ·exact key h
 ·simp at h
theorem zEG{t:TypeId}{dst n:Nat}(hs:s≠dst){ps:List (Nat×AV)}(hp:∀p∈ps,zf s p.2=true){ef:Eff}(h:JB E t dst n ps=some ef):Eff.off s ef:=by
 unfold JB at h;obtain⟨td,_,h⟩:=zA h;split at h
 case h_2=>simp at h
 obtain⟨ed,_,h⟩:=zA h;obtain⟨_,h⟩:=zE h;obtain⟨vs,hv,h⟩:=zA h;split at h
 ·simp[zc] at h;subst h;exact zn rfl
 ·injection h with h;subst h
  exact zBC (by simp[zf];exact Ne.symm hs) (zB4 (zBf hv hp (Y7 λv hv=>by rw[List.mem_replicate] at hv;rw[hv.2];rfl)))
theorem off_sliceE{t:TypeId}{x:AV}(hx:zf s x=true){lo hi mx:Option AV}{ef:Eff}(h:YW E t x lo hi mx=some ef):Eff.off s ef:=by
 unfold YW at h;obtain⟨td,_,h⟩:=zA h;obtain⟨l,_,h⟩:=zA h;split at h
 ·obtain⟨_,_,h⟩:=zA h;obtain⟨_,h⟩:=zE h;simp[zc] at h;subst h;exact zn rfl
 ·obtain⟨_,_,h⟩:=zA h;obtain⟨_,_,h⟩:=zA h;obtain⟨_,h⟩:=zE h;split at h
  ·simp[zc] at h;subst h;exact zn rfl
  ·obtain⟨_,_,h⟩:=zA h;obtain⟨_,h⟩:=zE h;simp[zc] at h;subst h;exact zn rfl
 ·obtain⟨_,_,h⟩:=zA h;obtain⟨_,_,h⟩:=zA h;obtain⟨_,h⟩:=zE h;split at h
  ·simp[zc] at h;subst h;exact zn rfl
  ·obtain⟨_,_,h⟩:=zA h;obtain⟨_,h⟩:=zE h;simp[zc] at h;subst h;exact zn rfl
 ·obtain⟨_,_,h⟩:=zA h;obtain⟨_,_,h⟩:=zA h;obtain⟨_,h⟩:=zE h;simp[zc] at h;subst h;exact zn (by simpa[zf] using hx)
 ·simp at h
theorem zGP{t:TypeId}{x:AV}(hx:zf s x=true){i:Nat}{ef:Eff}(h:jm E t x i=some ef):Eff.off s ef:=by
 unfold jm at h;obtain⟨td,_,h⟩:=zA h;split at h
 ·split at h
  ·obtain⟨_,h⟩:=zE h;simp[zc] at h;subst h;exact zn (by simpa[zf] using hx)
  ·split at h
   ·split at h
    ·simp[zc] at h;subst h;exact zn rfl
    ·simp at h
   ·simp at h
  ·simp at h
 ·simp at h
theorem off_field{t:TypeId}{x:AV}(hx:zf s x=true){i:Nat}{ef:Eff}(h:zBK E t x i=some ef):Eff.off s ef:=by
 unfold zBK at h;obtain⟨td,_,h⟩:=zA h;split at h
 ·obtain⟨_,_,h⟩:=zA h;obtain⟨_,_,h⟩:=zA h;obtain⟨v,hv,h⟩:=zA h;obtain⟨_,h⟩:=zE h;simp[zc] at h;subst h;exact zn (Qy hv hx)
 ·simp at h
theorem off_index{t:TypeId}{x ix:AV}(hx:zf s x=true){ef:Eff}(h:Y9 E t x ix=some ef):Eff.off s ef:=by
 unfold Y9 at h;obtain⟨td,_,h⟩:=zA h;obtain⟨i,_,h⟩:=zA h;obtain⟨_,h⟩:=zE h;split at h
 ·obtain⟨_,_,h⟩:=zA h;obtain⟨v,hv,h⟩:=zA h;obtain⟨_,h⟩:=zE h;simp[zc] at h;subst h;exact zn (Qy hv hx)
 ·split at h
  ·split at h
   ·simp[zc] at h;subst h;exact zn rfl
   ·simp at h
  ·simp at h
 ·simp at h
theorem zGO{t:TypeId}{x ix:AV}(hx:zf s x=true){ef:Eff}(h:jU E t x ix=some ef):Eff.off s ef:=by
 unfold jU at h;obtain⟨td,_,h⟩:=zA h;obtain⟨i,_,h⟩:=zA h;split at h
 ·obtain⟨_,_,h⟩:=zA h;split at h
  ·obtain⟨_,h⟩:=zE h;split at h
   ·simp[zc] at h;subst h;exact zn rfl
   ·simp at h
  ·obtain⟨_,h⟩:=zE h;simp[zc] at h;subst h;exact zn (by simpa[zf] using hx)
  ·simp at h
 ·split at h
  ·obtain⟨_,h⟩:=zE h;simp[zc] at h;subst h;exact zn (by simpa[zf] using hx)
  ·split at h
   ·obtain⟨_,h⟩:=zE h;split at h
    ·simp[zc] at h;subst h;exact zn rfl
    ·simp at h
   ·simp at h
  ·simp at h
 ·simp at h
theorem off_lookup{t:TypeId}{m k:AV}{ok:Bool}{ef:Eff}(h:JN E t hp m k ok=some ef):Eff.off s ef:=by
 unfold JN at h;obtain⟨td,_,h⟩:=zA h;split at h
 ·obtain⟨_,_,h⟩:=zA h;obtain⟨_,_,h⟩:=zA h;split at h
  ·obtain⟨_,h⟩:=zE h;obtain⟨_,_,h⟩:=zA h;obtain⟨r,_,h⟩:=zA h;split at h <;> (simp[zc] at h;subst h;exact zn rfl)
  ·simp at h
 ·simp at h
theorem zBD{t:TypeId}{m k x:AV}(hm:zf s m=true){ef:Eff}(h:jG E t hp m k x=some ef):Eff.off s ef:=by
 unfold jG at h;obtain⟨td,_,h⟩:=zA h;split at h
 ·obtain⟨_,_,h⟩:=zA h;obtain⟨_,_,h⟩:=zA h;split at h
  ·obtain⟨_,h⟩:=zE h;obtain⟨_,h⟩:=zE h;split at h
   ·obtain⟨_,_,h⟩:=zA h;injection h with h;subst h
    exact zH8 rfl (by simpa[zf] using hm) rfl
   ·simp at h
  ·simp at h
 ·simp at h
theorem off_next{b:Bool}{x:AV}(hx:zf s x=true){ef:Eff}(h:zAL hp b x=some ef):Eff.off s ef:=by
 unfold zAL at h;split at h
 ·obtain⟨_,h⟩:=zE h;split at h
  ·split at h
   ·injection h with h;subst h
    exact zH8 rfl (by simpa[zf] using hx) rfl
   ·simp[zc] at h;subst h;exact zn rfl
  ·simp at h
 ·simp at h
theorem off_call(hh:∀b ob,slot hp b=some ob->zh s ob.blk=true){call:FuncId->List DV->Option CR}{dst:Nat}(hs:s≠dst){f:AV}{args:List AV}(hf:zf s f=true)(ha:∀v∈args,zf s v=true){ef:Eff}
  (h:qe call dst hp f args=some ef):Eff.off s ef:=by
 unfold qe at h;obtain⟨c,hc,h⟩:=zA h;obtain⟨ds,_,h⟩:=zA h;obtain⟨r,_,h⟩:=zA h;injection h with h;subst h
 have hn:s ∉ jR hp (c.2.1++args++c.2.2):=by
  have hcc:jM s c.2.1=true/\jM s c.2.2=true:=by
   unfold YS at hc;split at hc
   ·injection hc with hc;subst hc;exact⟨qS _,qS _⟩
   ·injection hc with hc;subst hc;simpa[zf] using hf
   ·simp at hc
  refine zB0 hh _ λv hv=>?_
  rcases List.mem_append.1 hv with hv | hv
  ·rcases List.mem_append.1 hv with hv | hv
   ·exact jl hcc.1 hv
   ·exact ha v hv
  ·exact jl hcc.2 hv
 generalize jR hp (c.2.1++args++c.2.2)=ss at hn;cases r with
 | val x =>
  refine⟨rfl,by simp[deliver],by simp[deliver],by simp[deliver],?_⟩
  simp only[deliver];cases ss with
  | nil=>simp
  | cons b ss=>cases Yu x <;> simp_all
 | fresh sz xs =>
  refine⟨by simp[deliver,zf];exact Ne.symm hs,λb e=>?_,by simp[deliver],by simp[deliver],hn⟩
  simp only[deliver,Option.some.injEq] at e;subst e;rfl
theorem off_append(hh:∀b ob,slot hp b=some ob->zh s ob.blk=true){ts:List TypeId}{dst:Nat}(hs:s≠dst){args:List AV}(ha:∀v∈args,zf s v=true){ef:Eff}(h:JP E ts dst hp args=some ef):Eff.off s ef:=by
 unfold JP at h;split at h
 case h_2=>simp at h
 rename_i x y;split at h
 case h_2=>simp at h
 obtain⟨_,h⟩:=zE h;obtain⟨td,_,h⟩:=zA h;split at h
 case h_2=>simp at h
 obtain⟨ed,_,h⟩:=zA h;obtain⟨bs,hbs,h⟩:=zA h;obtain⟨el,hel,h⟩:=zA h;obtain⟨_,h⟩:=zE h;have hx:=ha x (by simp)
 have hb:bs.2≠some s:=by
  unfold YK at hbs;split at hbs
  ·injection hbs with hbs;subst hbs;simp
  ·split at hbs
   ·split at hbs
    ·split at hbs
     ·injection hbs with hbs;subst hbs
      simp only[zf,Bool.not_eq_true',beq_eq_false_iff_ne] at hx;simpa using hx
     ·simp at hbs
    ·simp at hbs
   ·simp at hbs
  ·simp at hbs
 split at h
 ·simp[zc] at h;subst h;exact zn rfl
 ·injection h with h;subst h
  exact⟨by simp[zf];exact Ne.symm hs,λb e=>by injection e with e;subst e;rfl,by simp,hb,zBO hh hel⟩
theorem off_copy(hh:∀b ob,slot hp b=some ob->zh s ob.blk=true){ts:List TypeId}{args:List AV}(ha:∀v∈args,zf s v=true){ef:Eff}(h:zA3 E ts hp args=some ef):Eff.off s ef:=by
 unfold zA3 at h;split at h
 case h_2=>simp at h
 rename_i x y;split at h
 case h_2=>simp at h
 obtain⟨td,_,h⟩:=zA h;split at h
 case h_2=>simp at h
 obtain⟨ed,_,h⟩:=zA h;have hx:=ha x (by simp)
 split at h
 case h_2=>simp at h
 obtain⟨_,h⟩:=zE h;split at h
 case h_2=>simp at h
 obtain⟨_,h⟩:=zE h;obtain⟨el,hel,h⟩:=zA h;injection h with h;subst h
 exact⟨rfl,by simp,λb k e=>by injection e with e;injection e with e1 e2;subst e1;subst e2;exact⟨by simpa[zf] using hx,rfl⟩,by simp,zBO hh hel⟩
theorem off_len{ts:List TypeId}{args:List AV}{ef:Eff}(h:zB5 E ts hp args=some ef):Eff.off s ef:=by
 unfold zB5 at h;split at h
 case h_2=>simp at h
 split at h
 case h_2=>simp at h
 obtain⟨td,_,h⟩:=zA h;split at h
 all_goals first
  | (simp[zc] at h;subst h;exact zn rfl)
  | (obtain⟨_,_,h⟩:=zA h;simp[zc] at h;subst h;exact zn rfl)
  | (simp at h)
theorem off_max{args:List AV}{ef:Eff}(h:maxE args=some ef):Eff.off s ef:=by
 unfold maxE at h;split at h
 ·obtain⟨_,_,h⟩:=zA h;simp[zc] at h;subst h;exact zn rfl
 ·simp at h
theorem off_min{args:List AV}{ef:Eff}(h:minE args=some ef):Eff.off s ef:=by
 unfold minE at h;split at h
 ·obtain⟨_,_,h⟩:=zA h;simp[zc] at h;subst h;exact zn rfl
 ·simp at h
theorem zE4{call:FuncId->List DV->Option CR}{op:Op}{dst:Nat}{tm:List AV}{ef:Eff}(h:jY E call op dst tm hp=some ef)(hs:s≠dst)(ho:∀x∈op.operands,∀v,evO E tm x=some v->zf s v=true)
  (hh:∀b ob,slot hp b=some ob->zh s ob.blk=true):Eff.off s ef:=by
 cases op <;> simp only[jY] at h <;> try (simp at h;done)
 case move x =>
  obtain⟨v,hv,h⟩:=zA h;simp[zc] at h;subst h;exact zn (ho x (by simp[Op.operands]) v hv)
 case assign x =>
  obtain⟨v,hv,h⟩:=zA h;simp[zc] at h;subst h;exact zn (ho x (by simp[Op.operands]) v hv)
 case pick c x y =>
  obtain⟨v,_,h⟩:=zA h;obtain⟨b,_,h⟩:=zA h;obtain⟨u,hu,h⟩:=zA h;simp[zc] at h;subst h;cases b
  ·exact zn (ho y (by simp[Op.operands]) u hu)
  ·exact zn (ho x (by simp[Op.operands]) u hu)
 case alloc t =>
  obtain⟨td,_,h⟩:=zA h;obtain⟨_,h⟩:=zE h;injection h with h;subst h
  exact zBC (by simp[zf];exact Ne.symm hs) rfl
 case box t x =>
  obtain⟨v,hv,h⟩:=zA h;obtain⟨td,_,h⟩:=zA h;obtain⟨_,h⟩:=zE h;injection h with h;subst h
  exact zBC (by simp[zf];exact Ne.symm hs) (zB4 (by simp[jM,ho x (by simp[Op.operands]) v hv]))
 case build t ps =>
  obtain⟨vs,hv,h⟩:=zA h;refine off_build (λp hp=>?_) h
  obtain⟨q,hq,e⟩:=zAn hv p hp;exact ho q.2 (by simp only[Op.operands];simp;exact⟨q.1,by simpa using hq⟩) _ e
 case buildSlice t n ps =>
  obtain⟨vs,hv,h⟩:=zA h;refine zEG hs (λp hp=>?_) h
  obtain⟨q,hq,e⟩:=zAn hv p hp;exact ho q.2 (by simp only[Op.operands];simp;exact⟨q.1,by simpa using hq⟩) _ e
 case load t x =>
  obtain⟨v,hv,h⟩:=zA h;exact off_loadE hh (ho x (by simp[Op.operands]) v hv) h
 case store t x y =>
  obtain⟨v,hv,h⟩:=zA h;obtain⟨u,hu,h⟩:=zA h;exact off_storeE hh (ho x (by simp[Op.operands]) v hv) (ho y (by simp[Op.operands]) u hu) h
 case nilCheck x =>
  obtain⟨v,hv,h⟩:=zA h;have hn:=ho x (by simp[Op.operands]) v hv
  unfold Yf at h;split at h <;> try (simp at h;done)
  simp[zc] at h;subst h;exact zn hn
 case binOp op t x y c =>
  obtain⟨v,hv,h⟩:=zA h;obtain⟨u,hu,h⟩:=zA h;split at h
  ·obtain⟨_,h⟩:=zE h;obtain⟨_,_,h⟩:=zA h;simp[zc] at h;subst h;exact zn rfl
  ·simp at h
 case unOp op t x =>
  obtain⟨v,hv,h⟩:=zA h;split at h
  ·obtain⟨_,_,h⟩:=zA h;simp[zc] at h;subst h;exact zn rfl
  ·simp at h
 case convert t1 t2 x =>
  obtain⟨v,hv,h⟩:=zA h;split at h
  ·obtain⟨_,_,h⟩:=zA h;simp[zc] at h;subst h;exact zn rfl
  ·simp at h
 case makeFunc fn fs cs =>
  cases fn <;> try (simp[jY] at h;done)
  simp only[jY] at h;obtain⟨x,hx,h⟩:=zA h;obtain⟨y,hy,h⟩:=zA h;obtain⟨_,h⟩:=zE h;simp[zc] at h;subst h;refine zn (noRef_mkFn (Y7 λv hv=>?_) (Y7 λv hv=>?_))
  ·obtain⟨z,hz,e⟩:=zCs hx v hv;exact ho z (by simp[Op.operands];exact .inl (by simpa using hz)) v e
  ·obtain⟨z,hz,e⟩:=zCs hy v hv;exact ho z (by simp[Op.operands];exact .inr (by simpa using hz)) v e
 case makeMap t r =>
  cases r with
  | some r=>simp at h
  | none =>
   simp only at h;obtain⟨td,_,h⟩:=zA h;split at h
   ·injection h with h;subst h
    exact zBC (by simp[zf];exact Ne.symm hs) rfl
   ·simp at h
 case makeSlice t x y =>
  obtain⟨v,hv,h⟩:=zA h;obtain⟨u,hu,h⟩:=zA h;unfold Jh at h;obtain⟨td,_,h⟩:=zA h;split at h
  ·obtain⟨_,_,h⟩:=zA h;obtain⟨_,_,h⟩:=zA h;obtain⟨_,_,h⟩:=zA h;obtain⟨_,h⟩:=zE h;injection h with h;subst h
   exact zBC (by simp[zf];exact Ne.symm hs) rfl
  ·simp at h
 case slice t x lo hi mx =>
  obtain⟨v,hv,h⟩:=zA h;obtain⟨_,_,h⟩:=zA h;obtain⟨_,_,h⟩:=zA h;obtain⟨_,_,h⟩:=zA h;exact off_sliceE (ho x (by simp[Op.operands]) v hv) h
 case fieldAddr t x i =>
  obtain⟨v,hv,h⟩:=zA h;exact zGP (ho x (by simp[Op.operands]) v hv) h
 case field t x i =>
  obtain⟨v,hv,h⟩:=zA h;exact off_field (ho x (by simp[Op.operands]) v hv) h
 case indexAddr t x i =>
  obtain⟨v,hv,h⟩:=zA h;obtain⟨_,_,h⟩:=zA h;exact zGO (ho x (by simp[Op.operands]) v hv) h
 case index t x i =>
  obtain⟨v,hv,h⟩:=zA h;obtain⟨_,_,h⟩:=zA h;exact off_index (ho x (by simp[Op.operands]) v hv) h
 case lookup t m k ok =>
  obtain⟨_,_,h⟩:=zA h;obtain⟨_,_,h⟩:=zA h;exact off_lookup h
 case mapUpdate t m k x =>
  obtain⟨v,hv,h⟩:=zA h;obtain⟨_,_,h⟩:=zA h;obtain⟨_,_,h⟩:=zA h;exact zBD (ho m (by simp[Op.operands]) v hv) h
 case insert t m k x =>
  obtain⟨v,hv,h⟩:=zA h;obtain⟨_,_,h⟩:=zA h;obtain⟨_,_,h⟩:=zA h;exact zBD (ho m (by simp[Op.operands]) v hv) h
 case range t x =>
  obtain⟨td,_,h⟩:=zA h;split at h
  ·obtain⟨v,hv,h⟩:=zA h;unfold zGL at h;split at h
   ·injection h with h;subst h
    exact zBC (by simp[zf];exact Ne.symm hs) rfl
   ·simp at h
  ·simp at h
 case next x b =>
  obtain⟨v,hv,h⟩:=zA h;exact off_next (ho x (by simp[Op.operands]) v hv) h
 case extract x i =>
  obtain⟨v,hv,h⟩:=zA h;unfold Qc at h;split at h
  ·split at h
   ·simp[zc] at h;subst h;exact zn rfl
   ·simp at h
  ·simp at h
 case call c =>
  obtain⟨vs,hv,h⟩:=zA h;have ha:∀v∈vs,zf s v=true:=λv hm=>by obtain⟨z,hz,e⟩:=zCs hv v hm;exact ho z (by simp only[Op.operands,Call.operands];simp;exact .inr (by simpa using hz)) v e
  cases hc:c.callee with
  | invoke r m=>rw[hc] at h;simp at h
  | value f =>
   rw[hc] at h;simp only at h;obtain⟨vf,hvf,h⟩:=zA h;exact off_call hh hs (ho f (by simp only[Op.operands,Call.operands,hc];simp) vf hvf) ha h
  | builtin b =>
   rw[hc] at h;cases b <;> try (simp at h;done)
   ·exact off_append hh hs ha h
   ·exact off_copy hh ha h
   ·exact off_len h
   ·exact off_max h
   ·exact off_min h
end
end Go.Am
namespace Go.Am
open Go.Proofs
open Go Go.RowKit
section
variable{E:Env}{X:Nat->Prop}{hp hp':List (Option OB)}
def nrX(X:Nat->Prop)(v:AV):Prop:=∀s,X s->zf s v=true
structure HSim(X:Nat->Prop)(hp hp':List (Option OB)):Prop where
 blk:∀b,¬X b->(slot hp b).map OB.blk=(slot hp' b).map OB.blk
 ref:∀b ob,¬X b->slot hp b=some ob->∀s,X s->zh s ob.blk=true
theorem HSim.some(h:HSim X hp hp'){b:Nat}(hb:¬X b){ob:OB}(hs:slot hp b=some ob):∃z,slot hp' b=some ⟨z,ob.blk⟩:=by
 have:=h.blk b hb;rw[hs] at this;cases h':slot hp' b with
 | none=>rw[h'] at this;simp at this
 | some ob' =>
  rw[h'] at this;obtain⟨z,blk⟩:=ob';simp only[Option.map_some,Option.some.injEq] at this;exact⟨z,by rw[this]⟩
theorem HSim.none(h:HSim X hp hp'){b:Nat}(hb:¬X b)(hs:slot hp b=none):slot hp' b=none:=by
 have:=h.blk b hb;rw[hs] at this;cases h':slot hp' b with
 | none=>rfl
 | some ob'=>rw[h'] at this;simp at this
theorem nrX.own{b off len sz:Nat}(h:nrX X (.own b off len sz)):¬X b:=λhb=>by have:=h b hb;simp[zf] at this
theorem nrX.ptr{b sz e:Nat}{p:List (Nat×Nat)}(h:nrX X (.ptr b sz e p)):¬X b:=λhb=>by have:=h b hb;simp[zf] at this
theorem nrX.omp{b:Nat}(h:nrX X (.omp b)):¬X b:=λhb=>by have:=h b hb;simp[zf] at this
theorem nrX.it{b:Nat}(h:nrX X (.it b)):¬X b:=λhb=>by have:=h b hb;simp[zf] at this
theorem nrX.mem{l:List AV}(h:∀s,X s->jM s l=true){v:AV}(hv:v∈l):nrX X v:=λs hs=>jl (h s hs) hv
theorem Ya{α β:Type}{f g:α->Option β}:∀{l:List α},(∀x∈l,f x=g x)->Q2 f l=Q2 g l
 | [],_=>rfl
 | x :: l,h=>by simp only[Q2,h x (by simp),Ya (l:=l) λy hy=>h y (by simp[hy])]
theorem jB{α β:Type}{f g:α->List β}:∀{l:List α},(∀x∈l,f x=g x)->l.flatMap f=l.flatMap g
 | [],_=>rfl
 | x :: l,h=>by simp only[List.flatMap_cons,h x (by simp),jB (l:=l) λy hy=>h y (by simp[hy])]
theorem zFz(h:HSim X hp hp'):∀(n:Nat) (v:AV),nrX X v->snap hp n v=snap hp' n v/\sites hp n v=sites hp' n v:=by
 intro n;induction n with
 | zero =>
  intro v hv;cases v with
  | omp b =>
   refine⟨?_,rfl⟩;simp only[snap];cases hb:slot hp b with
   | none=>rw[h.none hv.omp hb]
   | some ob=>obtain⟨z,hz⟩:=h.some hv.omp hb;rw[hz];cases ob;rename_i z' blk;cases blk <;> rfl
  | _=>exact⟨rfl,rfl⟩
 | succ n ih =>
  intro v hv;cases v with
  | d x=>exact⟨rfl,rfl⟩
  | undef=>exact⟨rfl,rfl⟩
  | it b=>exact⟨rfl,rfl⟩
  | omp b =>
   refine⟨?_,rfl⟩;simp only[snap];cases hb:slot hp b with
   | none=>rw[h.none hv.omp hb]
   | some ob=>obtain⟨z,hz⟩:=h.some hv.omp hb;rw[hz];cases ob;rename_i z' blk;cases blk <;> rfl
  | own b off len sz =>
   cases hb:slot hp b with
   | none=>simp only[snap,sites,hb,h.none hv.own hb,and_self]
   | some ob =>
    obtain⟨z,hz⟩:=h.some hv.own hb;have hr:=h.ref b ob hv.own hb;obtain⟨z0,blk⟩:=ob;cases blk with
    | ac t xs =>
     have hx:∀x∈(xs.drop off).take len,nrX X x:=λx hx=>nrX.mem (λs hs=>by have:=hr s hs;simpa[zh] using this) (List.mem_of_mem_drop (List.mem_of_mem_take hx))
     simp only[snap,sites,hb,hz,Ya λx hm=>(ih x (hx x hm)).1,jB λx hm=>(ih x (hx x hm)).2,and_self]
    | dc t xs=>simp only[snap,sites,hb,hz,and_self]
    | mp ks vs=>simp only[snap,sites,hb,hz,and_self]
    | sit t p=>simp only[snap,sites,hb,hz,and_self]
  | ptr b sz e p =>
   cases hb:slot hp b with
   | none=>simp only[snap,sites,hb,h.none hv.ptr hb,and_self]
   | some ob =>
    obtain⟨z,hz⟩:=h.some hv.ptr hb;have hr:=h.ref b ob hv.ptr hb;simp only[snap,sites,hb,hz];cases hg:ob.blk.get sz e with
    | none=>exact⟨rfl,rfl⟩
    | some y =>
     simp only;cases hp:zDo p y with
     | none=>exact⟨rfl,rfl⟩
     | some x =>
      have:=ih x λs hs=>Qx p hp (zAy hg (hr s hs))
      simp only[this.1,this.2,and_self]
  | agg t fs =>
   have hx:∀x∈fs,nrX X x:=λx hx=>nrX.mem (λs hs=>by have:=hv s hs;simpa[zf] using this) hx
   simp only[snap,sites,Ya λx hm=>(ih x (hx x hm)).1,jB λx hm=>(ih x (hx x hm)).2,and_self]
  | fn f a c =>
   have hx:∀x∈a,nrX X x:=λx hx=>nrX.mem (λs hs=>by have:=hv s hs;simp only[zf,Bool.and_eq_true] at this;exact this.1) hx
   have hy:∀x∈c,nrX X x:=λx hx=>nrX.mem (λs hs=>by have:=hv s hs;simp only[zf,Bool.and_eq_true] at this;exact this.2) hx
   simp only[snap,sites,Ya λx hm=>(ih x (hx x hm)).1,jB λx hm=>(ih x (hx x hm)).2,Ya λx hm=>(ih x (hy x hm)).1,jB λx hm=>(ih x (hy x hm)).2,and_self]
theorem zGw(h:HSim X hp hp'):∀(vs:List AV),(∀v∈vs,nrX X v)->JV hp vs=JV hp' vs/\jR hp vs=jR hp' vs
 | [],_=>⟨rfl,rfl⟩
 | v :: vs,hv=>by
  have h1:=zFz h zp v (hv v (by simp))
  have h2:=zGw h vs λx hx=>hv x (by simp[hx])
  simp only[JV,jR,h1.1,h1.2,h2.1,h2.2,and_self]
theorem zDq(h:HSim X hp hp'){sz:Nat}{v:AV}(hv:nrX X v):jX hp sz v=jX hp' sz v:=by
 cases v with
 | own b off len s =>
  simp only[jX];cases hb:slot hp b with
  | none=>rw[h.none hv.own hb]
  | some ob =>
   obtain⟨z,hz⟩:=h.some hv.own hb;have hr:=h.ref b ob hv.own hb;obtain⟨z0,blk⟩:=ob;rw[hz];cases blk with
   | ac t xs =>
    have hx:∀x∈(xs.drop off).take len,nrX X x:=λx hx=>nrX.mem (λs hs=>by have:=hr s hs;simpa[zh] using this) (List.mem_of_mem_drop (List.mem_of_mem_take hx))
    simp only[Ya λx hm=>(zFz h zp x (hx x hm)).1,jB λx hm=>(zFz h zp x (hx x hm)).2]
   | _=>rfl
 | d x=>cases x <;> rfl
 | _=>rfl
theorem zHD(h:HSim X hp hp'){v:AV}(hv:nrX X v):Q0 hp v=Q0 hp' v:=by
 cases v with
 | omp b =>
  simp only[Q0];cases hb:slot hp b with
  | none=>rw[h.none hv.omp hb]
  | some ob=>obtain⟨z,hz⟩:=h.some hv.omp hb;rw[hz];cases ob;rename_i z' blk;cases blk <;> rfl
 | d x=>cases x <;> rfl
 | _=>rfl
theorem loadE_sim(h:HSim X hp hp'){t:TypeId}{v:AV}(hv:nrX X v):JJ E t hp v=JJ E t hp' v:=by
 cases v with
 | ptr b sz e p =>
  simp only[JJ];cases hb:slot hp b with
  | none=>rw[h.none hv.ptr hb]
  | some ob=>obtain⟨z,hz⟩:=h.some hv.ptr hb;rw[hz];rfl
 | d x=>cases x <;> rfl
 | _=>rfl
theorem callE_sim(h:HSim X hp hp'){call:FuncId->List DV->Option CR}{dst:Nat}{f:AV}{args:List AV}(hf:nrX X f)(ha:∀v∈args,nrX X v):qe call dst hp f args=qe call dst hp' f args:=by
 unfold qe;cases hc:YS f with
 | none=>rfl
 | some c =>
  have hcc:∀v∈c.2.1++args++c.2.2,nrX X v:=by
   have h12:∀s,X s->jM s c.2.1=true/\jM s c.2.2=true:=by
    intro s hs;unfold YS at hc;split at hc
    ·injection hc with hc;subst hc;exact⟨qS _,qS _⟩
    ·injection hc with hc;subst hc;have:=hf s hs;simpa[zf] using this
    ·simp at hc
   intro v hv;rcases List.mem_append.1 hv with hv | hv
   ·rcases List.mem_append.1 hv with hv | hv
    ·exact nrX.mem (λs hs=>(h12 s hs).1) hv
    ·exact ha v hv
   ·exact nrX.mem (λs hs=>(h12 s hs).2) hv
  obtain⟨h1,h2⟩:=zGw h _ hcc;simp only[zG,h1,h2]
def jw:Op->Bool
 | .store _ _ _ | .mapUpdate _ _ _ _ | .insert _ _ _ _ | .next _ _=>true
 | .call c=>match c.callee with | .builtin .copy=>true | _=>false
 | _=>false
theorem zA2{tm tm':List AV}:∀{xs:List Operand},(∀x∈xs,evO E tm x=evO E tm' x)->evL E tm xs=evL E tm' xs
 | [],_=>rfl
 | x :: xs,h=>by simp only[evL,h x (by simp),zA2 (xs:=xs) λy hy=>h y (by simp[hy])]
theorem qn{tm tm':List AV}:∀{ps:List (Nat×Operand)},(∀p∈ps,evO E tm p.2=evO E tm' p.2)->JO E tm ps=JO E tm' ps
 | [],_=>rfl
 | (i,x) :: ps,h=>by simp only[JO,h (i,x) (by simp),qn (ps:=ps) λy hy=>h y (by simp[hy])]
theorem zAp{tm tm':List AV}{o:Option Operand}(h:∀x,o=some x->evO E tm x=evO E tm' x):QJ E tm o=QJ E tm' o:=by
 cases o with
 | none=>rfl
 | some x=>simp only[QJ,h x rfl]
theorem effE_tm{call:FuncId->List DV->Option CR}{op:Op}{dst:Nat}{tm tm':List AV}(h:∀x∈op.operands,evO E tm x=evO E tm' x):jY E call op dst tm hp=jY E call op dst tm' hp:=by
 cases op <;> simp only[jY]
 case move x=>rw[h x (by simp[Op.operands])]
 case assign x=>rw[h x (by simp[Op.operands])]
 case pick c x y =>
  rw[h c (by simp[Op.operands])]
  congr 1;funext v;congr 1;funext b;cases b
  ·rw[h y (by simp[Op.operands])]
  ·rw[h x (by simp[Op.operands])]
 case box t x=>rw[h x (by simp[Op.operands])]
 case build t ps=>rw[qn λp hp=>h p.2 (by simp only[Op.operands];simp;exact⟨p.1,by simpa using hp⟩)]
 case buildSlice t n ps=>rw[qn λp hp=>h p.2 (by simp only[Op.operands];simp;exact⟨p.1,by simpa using hp⟩)]
 case load t x=>rw[h x (by simp[Op.operands])]
 case store t x y=>rw[h x (by simp[Op.operands]),h y (by simp[Op.operands])]
 case nilCheck x=>rw[h x (by simp[Op.operands])]
 case binOp op t x y c=>rw[h x (by simp[Op.operands]),h y (by simp[Op.operands])]
 case unOp op t x=>rw[h x (by simp[Op.operands])]
 case convert t1 t2 x=>rw[h x (by simp[Op.operands])]
 case makeFunc fn fs cs =>
  cases fn <;> simp only[jY]
  rw[zA2 (xs:=fs.toList) λx hx=>h x (by simp[Op.operands];exact .inl (by simpa using hx)),zA2 (xs:=cs.toList) λx hx=>h x (by simp[Op.operands];exact .inr (by simpa using hx))]
 case makeSlice t x y=>rw[h x (by simp[Op.operands]),h y (by simp[Op.operands])]
 case slice t x lo hi mx =>
  rw[h x (by simp[Op.operands]),zAp (o:=lo) λy hy=>h y (by simp[Op.operands,hy]),zAp (o:=hi) λy hy=>h y (by simp[Op.operands,hy]),zAp (o:=mx) λy hy=>h y (by simp[Op.operands,hy])]
 case fieldAddr t x i=>rw[h x (by simp[Op.operands])]
 case field t x i=>rw[h x (by simp[Op.operands])]
 case indexAddr t x i=>rw[h x (by simp[Op.operands]),h i (by simp[Op.operands])]
 case index t x i=>rw[h x (by simp[Op.operands]),h i (by simp[Op.operands])]
 case lookup t m k ok=>rw[h m (by simp[Op.operands]),h k (by simp[Op.operands])]
 case mapUpdate t m k x=>rw[h m (by simp[Op.operands]),h k (by simp[Op.operands]),h x (by simp[Op.operands])]
 case insert t m k x=>rw[h m (by simp[Op.operands]),h k (by simp[Op.operands]),h x (by simp[Op.operands])]
 case range t x=>rw[h x (by simp[Op.operands])]
 case next x b=>rw[h x (by simp[Op.operands])]
 case extract x i=>rw[h x (by simp[Op.operands])]
 case call c =>
  rw[zA2 (xs:=c.args.toList) λx hx=>h x (by simp only[Op.operands,Call.operands];simp;exact .inr (by simpa using hx))]
  congr 1;funext args;cases hc:c.callee with
  | value f=>simp only[h f (by simp only[Op.operands,Call.operands,hc];simp)]
  | invoke r m=>rfl
  | builtin b=>cases b <;> rfl
theorem jW{α β:Type}{o:Option α}{f g:α->Option β}(h:∀x,o=some x->f x=g x):bnd o f=bnd o g:=by
 cases o with
 | none=>rfl
 | some x=>exact h x rfl
theorem effE_hp{call:FuncId->List DV->Option CR}{op:Op}{dst:Nat}{tm:List AV}(h:HSim X hp hp')(ho:∀x∈op.operands,∀v,evO E tm x=some v->nrX X v)
  (hW:jw op=true->∀b,¬X b->slot hp b=slot hp' b)
  (hB:∀c x,op=.call c->c.callee=.builtin .append->c.args.toList.head? = some x->∀b off len sz,evO E tm x=some (.own b off len sz)->slot hp b=slot hp' b) :
  jY E call op dst tm hp=jY E call op dst tm hp':=by
 cases op <;> simp only[jY]
 case makeFunc fn fs cs=>cases fn <;> rfl
 case load t x=>exact jW λv hv=>loadE_sim h (ho x (by simp[Op.operands]) v hv)
 case store t x y =>
  refine jW λv hv=>jW λu hu=>?_
  have hn:=ho x (by simp[Op.operands]) v hv
  cases v with
  | ptr b sz e p=>simp only[J8,hW rfl b hn.ptr]
  | _=>rfl
 case lookup t m k ok =>
  refine jW λv hv=>jW λu hu=>?_
  simp only[JN,zHD h (ho m (by simp[Op.operands]) v hv)]
 case mapUpdate t m k x =>
  refine jW λv hv=>jW λu hu=>jW λy hy=>?_
  have hn:=ho m (by simp[Op.operands]) v hv
  cases v with
  | omp b =>
   cases u with
   | d k =>
    cases y with
    | d v=>simp only[jG,hW rfl b hn.omp]
    | _=>rfl
   | _=>rfl
  | _=>rfl
 case insert t m k x =>
  refine jW λv hv=>jW λu hu=>jW λy hy=>?_
  have hn:=ho m (by simp[Op.operands]) v hv
  cases v with
  | omp b =>
   cases u with
   | d k =>
    cases y with
    | d v=>simp only[jG,hW rfl b hn.omp]
    | _=>rfl
   | _=>rfl
  | _=>rfl
 case next x b =>
  refine jW λv hv=>?_
  have hn:=ho x (by simp[Op.operands]) v hv
  cases v with
  | it b=>simp only[zAL,hW rfl b hn.it]
  | _=>rfl
 case call c =>
  refine jW λargs hargs=>?_
  have ha:∀v∈args,nrX X v:=λv hm=>by obtain⟨z,hz,e⟩:=zCs hargs v hm;exact ho z (by simp only[Op.operands,Call.operands];simp;exact .inr (by simpa using hz)) v e
  cases hc:c.callee with
  | invoke r m=>rfl
  | value f =>
   simp only;refine jW λvf hvf=>callE_sim h (ho f (by simp only[Op.operands,Call.operands,hc];simp) vf hvf) ha
  | builtin b =>
   cases b <;> try rfl
   ·
    simp only;unfold JP
    match args,ha,hargs with
    | [s,x],ha,hargs =>
     simp only;have hel:∀sz,jX hp sz x=jX hp' sz x:=λsz=>zDq h (ha x (by simp))
     have hbs:∀sz,YK hp sz s=YK hp' sz s:=λsz=>by
      cases s with
      | own b off len s' =>
       obtain⟨y,ys,hy⟩:∃y ys,c.args.toList=y :: ys:=by
        cases hl:c.args.toList with
        | nil=>rw[hl] at hargs;simp[evL] at hargs
        | cons y ys=>exact⟨y,ys,rfl⟩
       have hev:evO E tm y=some (.own b off len s'):=by
        rw[hy] at hargs;simp only[evL] at hargs;obtain⟨v,hv,hargs⟩:=zA hargs;obtain⟨vs,_,hargs⟩:=zA hargs;injection hargs with hargs
        injection hargs with e1 e2;rw[hv,e1]
       simp only[YK,hB c y rfl hc (by rw[hy];rfl) b off len s' hev]
      | d y=>cases y <;> rfl
      | _=>rfl
     simp only[hel,hbs]
    | [],_,_=>rfl
    | [_],_,_=>rfl
    | _ :: _ :: _ :: _,_,_=>rfl
   ·
    simp only;unfold zA3
    match args,ha with
    | [s,x],ha =>
     simp only;have hel:∀sz,jX hp sz x=jX hp' sz x:=λsz=>zDq h (ha x (by simp))
     cases s with
     | own b off len sz=>simp only[hel,hW (by simp[jw,hc]) b (ha (.own b off len sz) (by simp)).own]
     | _=>rfl
    | [],_=>rfl
    | [_],_=>rfl
    | _ :: _ :: _ :: _,_=>rfl
   ·
    simp only;unfold zB5
    match args,ha with
    | [x],ha =>
     have hm:=zHD h (ha x (by simp))
     simp only;generalize c.argTypes.toList=ts
     match ts with
     | [t] =>
      refine jW λtd _=>?_
      cases td.k <;> cases x <;> first | rfl | (simp only[hm];done) | (rename_i y;cases y <;> first | rfl | (simp only[hm];done))
     | []=>rfl
     | _ :: _ :: _=>rfl
    | [],_=>rfl
    | _ :: _ :: _,_=>rfl
end
end Go.Am
namespace Go.Am
open Go.Proofs
open Go Go.RowKit
def fzO(o:Option OB):Option OB:=o.map λob=>{ ob with fz:=true }
def F1(ef:Eff)(b:Nat)(o:Option OB):Option OB:=if b∈ef.frz then fzO o else o
def F2(ef:Eff)(b:Nat)(o:Option OB):Option OB:=match ef.upd with | some (u,blk)=>if b=u then o.map λob=>{ ob with blk } else o | none=>o
def F3(ef:Eff)(b:Nat)(o:Option OB):Option OB:=if ef.kil=some b then none else o
def F4(ef:Eff)(s b:Nat)(o:Option OB):Option OB:=match ef.new with | some blk=>if b=s then some ⟨false,blk⟩ else o | none=>o
def FF(ef:Eff)(s b:Nat)(o:Option OB):Option OB:=F4 ef s b (F3 ef b (F2 ef b (F1 ef b o)))
theorem fzO_idem(o:Option OB):fzO (fzO o)=fzO o:=by cases o <;> rfl
theorem JM(hp:List (Option OB))(b:Nat):slot hp b=(hp[b]?).join:=by
 unfold slot;cases hp[b]? with
 | none=>rfl
 | some o=>cases o <;> rfl
theorem zI3(hp:List (Option OB))(c b:Nat):(freeze1 hp c)[b]? = (hp[b]?).map λo=>if b=c then fzO o else o:=by
 unfold freeze1;cases hs:slot hp c with
 | none =>
  simp only;cases hb:hp[b]? with
  | none=>rfl
  | some o =>
   simp only[Option.map_some];by_cases e:b=c
   ·subst e;rw[JM,hb] at hs;simp only[Option.join_some] at hs;subst hs;simp[fzO]
   ·simp[e]
 | some ob =>
  simp only;by_cases e:b=c
  ·subst e;rw[JM] at hs;cases hb:hp[b]? with
   | none=>rw[hb] at hs;simp at hs
   | some o =>
    rw[hb] at hs;simp only[Option.join_some] at hs;subst hs;have hlt:b<hp.length:=(List.getElem?_eq_some_iff.1 hb).1;rw[List.getElem?_set_self hlt];simp[fzO]
  ·rw[List.getElem?_set_ne (Ne.symm e)];cases hp[b]? <;> simp[e]
theorem zDn:∀(ss:List Nat) (hp:List (Option OB)) (b:Nat),(freezeL hp ss)[b]? = (hp[b]?).map λo=>if b∈ss then fzO o else o
 | [],hp,b=>by simp[freezeL]
 | c :: ss,hp,b=>by
  simp only[freezeL];rw[zDn ss,zI3,Option.map_map];congr 1;funext o;simp only[Function.comp];by_cases e:b=c
  ·subst e;simp only[if_true,List.mem_cons,true_or];by_cases h:b∈ss
   ·simp[h,fzO_idem]
   ·simp[h]
  ·simp[e]
theorem J4(ef:Eff)(dst:Option Tmp)(s:Nat)(st:St)(b:Nat):(zj ef dst s st).hp[b]? = (st.hp[b]?).map (FF ef s b):=by
 have h2:∀(hp:List (Option OB)),(zCh hp ef.upd)[b]? = (hp[b]?).map (F2 ef b):=by
  intro hp;unfold zCh F2;cases hu:ef.upd with
  | none=>simp
  | some p =>
   obtain⟨u,blk⟩:=p;simp only;cases hs:slot hp u with
   | none =>
    simp only;cases hb:hp[b]? with
    | none=>rfl
    | some o =>
     by_cases e:b=u
     ·subst e;rw[JM,hb] at hs;simp only[Option.join_some] at hs;subst hs;simp
     ·simp[e]
   | some ob =>
    simp only;by_cases e:b=u
    ·subst e;rw[JM] at hs;cases hb:hp[b]? with
     | none=>rw[hb] at hs;simp at hs
     | some o =>
      rw[hb] at hs;simp only[Option.join_some] at hs;subst hs;have hlt:b<hp.length:=(List.getElem?_eq_some_iff.1 hb).1;rw[List.getElem?_set_self hlt];simp
    ·rw[List.getElem?_set_ne (Ne.symm e)];cases hp[b]? <;> simp[e]
 have h3:∀(hp:List (Option OB)),(zDl hp ef.kil)[b]? = (hp[b]?).map (F3 ef b):=by
  intro hp;unfold zDl F3;cases hk:ef.kil with
  | none=>simp
  | some k =>
   simp only;by_cases e:b=k
   ·subst e;cases hb:hp[b]? with
    | none =>
     have:hp.length<=b:=List.getElem?_eq_none_iff.1 hb;rw[List.set_eq_of_length_le this,hb];rfl
    | some o =>
     have hlt:b<hp.length:=(List.getElem?_eq_some_iff.1 hb).1;rw[List.getElem?_set_self hlt];simp
   ·rw[List.getElem?_set_ne (Ne.symm e)];cases hp[b]? <;> simp[Ne.symm e]
 have h4:∀(hp:List (Option OB)),(match ef.new with | some k=>hp.set s (some ⟨false,k⟩) | none=>hp)[b]? = (hp[b]?).map (F4 ef s b):=by
  intro hp;unfold F4;cases hn:ef.new with
  | none=>simp
  | some k =>
   simp only;by_cases e:b=s
   ·subst e;cases hb:hp[b]? with
    | none =>
     have:hp.length<=b:=List.getElem?_eq_none_iff.1 hb;rw[List.set_eq_of_length_le this,hb];rfl
    | some o =>
     have hlt:b<hp.length:=(List.getElem?_eq_some_iff.1 hb).1;rw[List.getElem?_set_self hlt];simp
   ·rw[List.getElem?_set_ne (Ne.symm e)];cases hp[b]? <;> simp[e]
 show(match ef.new with | some k=>(zDl (zCh (freezeL st.hp ef.frz) ef.upd) ef.kil).set s (some ⟨false,k⟩) | none=>zDl (zCh (freezeL st.hp ef.frz) ef.upd) ef.kil)[b]? = _
 rw[h4,h3,h2,zDn,Option.map_map,Option.map_map,Option.map_map];rfl
theorem Yk(ef:Eff)(dst:Option Tmp)(s:Nat)(st:St)(b:Nat):slot (zj ef dst s st).hp b=match st.hp[b]? with | some o=>FF ef s b o | none=>none:=by rw[JM,J4];cases st.hp[b]? <;> rfl
def Eff.touch(ef:Eff)(s b:Nat):Prop:=b∈ef.frz\/(∃k,ef.upd=some (b,k))\/ef.kil=some b\/(ef.new.isSome=true/\b=s)
def Eff.marks(ef:Eff)(s b:Nat):Prop:=b∈ef.frz/\(∀k,ef.upd≠some (b,k))/\ef.kil≠some b/\(ef.new.isSome=true->b≠s)
theorem zD9{ef:Eff}{s b:Nat}(h:¬ef.touch s b)(o:Option OB):FF ef s b o=o:=by
 simp only[Eff.touch,not_or,not_and] at h;obtain⟨h1,h2,h3,h4⟩:=h;unfold FF F1 F2 F3 F4;rw[if_neg h1];have e2:(match ef.upd with | some (u,blk)=>if b=u then o.map (λob=>{ ob with blk }) else o | none=>o)=o:=by
  cases hu:ef.upd with
  | none=>rfl
  | some p =>
   obtain⟨u,k⟩:=p;simp only;rw[if_neg];rintro rfl;exact h2 ⟨k,hu⟩
 rw[e2,if_neg h3];cases hn:ef.new with
 | none=>rfl
 | some k =>
  simp only;rw[if_neg (h4 (by simp[hn]))]
theorem zCg{ef:Eff}{s b:Nat}(h:ef.marks s b)(o:Option OB):FF ef s b o=fzO o:=by
 obtain⟨h1,h2,h3,h4⟩:=h;unfold FF F1 F2 F3 F4;rw[if_pos h1];have e2:∀o:Option OB,(match ef.upd with | some (u,blk)=>if b=u then o.map (λob=>{ ob with blk }) else o | none=>o)=o:=by
  intro o;cases hu:ef.upd with
  | none=>rfl
  | some p =>
   obtain⟨u,k⟩:=p;simp only;rw[if_neg];rintro rfl;exact h2 k hu
 rw[e2,if_neg h3];cases hn:ef.new with
 | none=>rfl
 | some k =>
  simp only;rw[if_neg (h4 (by simp[hn]))]
theorem zJD{e1 e2:Eff}{d1 d2:Option Tmp}{s1 s2:Nat}{st:St}(hd:∀d,d1=some d->d2≠some d)(h:∀b,e1.touch s1 b->e2.touch s2 b->e1.marks s1 b/\e2.marks s2 b) :
  zj e2 d2 s2 (zj e1 d1 s1 st)=zj e1 d1 s1 (zj e2 d2 s2 st):=by
 have ht:(zj e2 d2 s2 (zj e1 d1 s1 st)).tm=(zj e1 d1 s1 (zj e2 d2 s2 st)).tm:=by
  show jh (jh st.tm d1 e1.v) d2 e2.v=jh (jh st.tm d2 e2.v) d1 e1.v;cases d1 with
  | none=>rfl
  | some x =>
   cases d2 with
   | none=>rfl
   | some y =>
    have:x≠y:=λe=>hd x rfl (by rw[e])
    exact List.set_comm _ _ this
 have hh:(zj e2 d2 s2 (zj e1 d1 s1 st)).hp=(zj e1 d1 s1 (zj e2 d2 s2 st)).hp:=by
  apply List.ext_getElem?;intro b;rw[J4,J4,J4,J4,Option.map_map,Option.map_map];congr 1;funext o;simp only[Function.comp];by_cases a1:e1.touch s1 b
  ·by_cases a2:e2.touch s2 b
   ·obtain⟨m1,m2⟩:=h b a1 a2;rw[zCg m1,zCg m2,zCg m2,zCg m1]
   ·rw[zD9 a2,zD9 a2]
  ·rw[zD9 a1,zD9 a1]
 have key:∀x y:St,x.tm=y.tm->x.hp=y.hp->x=y:=λx y h1 h2=>by cases x;cases y;simp_all
 exact key _ _ ht hh
def Pur(ef:Eff):Prop:=∃v,ef={ v }
section
variable{E:Env}{hp:List (Option OB)}
theorem jI{v:AV}{ef:Eff}(h:zc v=some ef):Pur ef:=⟨v,by simp[zc] at h;exact h.symm⟩
theorem pur_loadE{t:TypeId}{a:AV}{ef:Eff}(h:JJ E t hp a=some ef):Pur ef:=by
 unfold JJ at h;obtain⟨td,_,h⟩:=zA h;split at h
 ·obtain⟨_,h⟩:=zE h;exact jI h
 ·obtain⟨ob,hob,h⟩:=zA h;obtain⟨v,hv,h⟩:=zA h;obtain⟨x,hx,h⟩:=zA h;obtain⟨_,h⟩:=zE h;exact jI h
 ·simp at h
theorem pur_buildE{t:TypeId}{ps:List (Nat×AV)}{ef:Eff}(h:zAQ E t ps=some ef):Pur ef:=by
 have key:∀{tag:Nat} {z:DV},Qg E tag z ps=some ef->Pur ef:=by
  intro tag z h;unfold Qg at h;split at h
  ·split at h
   ·obtain⟨fs,hf,h⟩:=zA h;exact jI h
   ·simp at h
  ·simp at h
 unfold zAQ at h;obtain⟨td,_,h⟩:=zA h;split at h
 ·exact key h
 ·exact key h
 ·simp at h
theorem pur_sliceE{t:TypeId}{x:AV}{lo hi mx:Option AV}{ef:Eff}(h:YW E t x lo hi mx=some ef):Pur ef:=by
 unfold YW at h;obtain⟨td,_,h⟩:=zA h;obtain⟨l,_,h⟩:=zA h;split at h
 ·obtain⟨_,_,h⟩:=zA h;obtain⟨_,h⟩:=zE h;exact jI h
 ·obtain⟨_,_,h⟩:=zA h;obtain⟨_,_,h⟩:=zA h;obtain⟨_,h⟩:=zE h;split at h
  ·exact jI h
  ·obtain⟨_,_,h⟩:=zA h;obtain⟨_,h⟩:=zE h;exact jI h
 ·obtain⟨_,_,h⟩:=zA h;obtain⟨_,_,h⟩:=zA h;obtain⟨_,h⟩:=zE h;split at h
  ·exact jI h
  ·obtain⟨_,_,h⟩:=zA h;obtain⟨_,h⟩:=zE h;exact jI h
 ·obtain⟨_,_,h⟩:=zA h;obtain⟨_,_,h⟩:=zA h;obtain⟨_,h⟩:=zE h;exact jI h
 ·simp at h
theorem zEF{t:TypeId}{x:AV}{i:Nat}{ef:Eff}(h:jm E t x i=some ef):Pur ef:=by
 unfold jm at h;obtain⟨td,_,h⟩:=zA h;split at h
 ·split at h
  ·obtain⟨_,h⟩:=zE h;exact jI h
  ·split at h
   ·split at h
    ·exact jI h
    ·simp at h
   ·simp at h
  ·simp at h
 ·simp at h
theorem pur_fieldE{t:TypeId}{x:AV}{i:Nat}{ef:Eff}(h:zBK E t x i=some ef):Pur ef:=by
 unfold zBK at h;obtain⟨td,_,h⟩:=zA h;split at h
 ·obtain⟨_,_,h⟩:=zA h;obtain⟨_,_,h⟩:=zA h;obtain⟨v,hv,h⟩:=zA h;obtain⟨_,h⟩:=zE h;exact jI h
 ·simp at h
theorem pur_indexE{t:TypeId}{x ix:AV}{ef:Eff}(h:Y9 E t x ix=some ef):Pur ef:=by
 unfold Y9 at h;obtain⟨td,_,h⟩:=zA h;obtain⟨i,_,h⟩:=zA h;obtain⟨_,h⟩:=zE h;split at h
 ·obtain⟨_,_,h⟩:=zA h;obtain⟨v,hv,h⟩:=zA h;obtain⟨_,h⟩:=zE h;exact jI h
 ·split at h
  ·split at h
   ·exact jI h
   ·simp at h
  ·simp at h
 ·simp at h
theorem zEE{t:TypeId}{x ix:AV}{ef:Eff}(h:jU E t x ix=some ef):Pur ef:=by
 unfold jU at h;obtain⟨td,_,h⟩:=zA h;obtain⟨i,_,h⟩:=zA h;split at h
 ·obtain⟨_,_,h⟩:=zA h;split at h
  ·obtain⟨_,h⟩:=zE h;split at h
   ·exact jI h
   ·simp at h
  ·obtain⟨_,h⟩:=zE h;exact jI h
  ·simp at h
 ·split at h
  ·obtain⟨_,h⟩:=zE h;exact jI h
  ·split at h
   ·obtain⟨_,h⟩:=zE h;split at h
    ·exact jI h
    ·simp at h
   ·simp at h
  ·simp at h
 ·simp at h
theorem zIw{t:TypeId}{m k:AV}{ok:Bool}{ef:Eff}(h:JN E t hp m k ok=some ef):Pur ef:=by
 unfold JN at h;obtain⟨td,_,h⟩:=zA h;split at h
 ·obtain⟨_,_,h⟩:=zA h;obtain⟨_,_,h⟩:=zA h;split at h
  ·obtain⟨_,h⟩:=zE h;obtain⟨_,_,h⟩:=zA h;obtain⟨r,_,h⟩:=zA h;split at h <;> (exact jI h)
  ·simp at h
 ·simp at h
theorem pur_lenE{ts:List TypeId}{args:List AV}{ef:Eff}(h:zB5 E ts hp args=some ef):Pur ef:=by
 unfold zB5 at h;split at h
 case h_2=>simp at h
 split at h
 case h_2=>simp at h
 obtain⟨td,_,h⟩:=zA h;split at h
 all_goals first
  | (exact jI h)
  | (obtain⟨_,_,h⟩:=zA h;exact jI h)
  | (simp at h)
theorem pur_maxE{args:List AV}{ef:Eff}(h:maxE args=some ef):Pur ef:=by
 unfold maxE at h;split at h
 ·obtain⟨_,_,h⟩:=zA h;exact jI h
 ·simp at h
theorem pur_minE{args:List AV}{ef:Eff}(h:minE args=some ef):Pur ef:=by
 unfold minE at h;split at h
 ·obtain⟨_,_,h⟩:=zA h;exact jI h
 ·simp at h
theorem zHp{i:Nat}{x:AV}{ef:Eff}(h:Qc i x=some ef):Pur ef:=by
 unfold Qc at h;split at h
 ·split at h
  ·exact jI h
  ·simp at h
 ·simp at h
theorem zGM{x:AV}{ef:Eff}(h:Yf x=some ef):Pur ef:=by
 unfold Yf at h;split at h <;> try (simp at h;done)
 exact jI h
structure Form(hp:List (Option OB))(op:Op)(ef:Eff):Prop where
 upd:jw op=false->ef.upd=none
 kil:(∀c,op=.call c->c.callee≠.builtin .append)->ef.kil=none
 frz:(∀c,op=.call c->c.callee≠.builtin .append/\c.callee≠.builtin .copy/\∀f,c.callee≠.value f)->ef.frz=[]
 new:ef.new.isSome=true->owns op=true
 liveU:∀b k,ef.upd=some (b,k)->∃ob,slot hp b=some ob
 liveK:∀b,ef.kil=some b->∃ob,slot hp b=some ob
theorem Qd{call:FuncId->List DV->Option CR}{op:Op}{dst:Nat}{tm:List AV}{ef:Eff}(h:jY E call op dst tm hp=some ef):Form hp op ef:=by
 have pur:Pur ef->Form hp op ef:=λhp'=>by obtain⟨v,rfl⟩:=hp';exact⟨λ_=>rfl,λ_=>rfl,λ_=>rfl,by simp,by simp,by simp⟩
 cases op <;> simp only[jY] at h <;> try (simp at h;done)
 case move x=>obtain⟨v,hv,h⟩:=zA h;exact pur (jI h)
 case assign x=>obtain⟨v,hv,h⟩:=zA h;exact pur (jI h)
 case pick c x y =>
  obtain⟨v,_,h⟩:=zA h;obtain⟨b,_,h⟩:=zA h;obtain⟨u,hu,h⟩:=zA h;exact pur (jI h)
 case alloc t =>
  obtain⟨td,_,h⟩:=zA h;obtain⟨_,h⟩:=zE h;injection h with h;subst h
  exact⟨λ_=>rfl,λ_=>rfl,λ_=>rfl,λ_=>rfl,by simp,by simp⟩
 case box t x =>
  obtain⟨v,hv,h⟩:=zA h;obtain⟨td,_,h⟩:=zA h;obtain⟨_,h⟩:=zE h;injection h with h;subst h
  exact⟨λ_=>rfl,λ_=>rfl,λ_=>rfl,λ_=>rfl,by simp,by simp⟩
 case build t ps=>obtain⟨vs,hv,h⟩:=zA h;exact pur (pur_buildE h)
 case buildSlice t n ps =>
  obtain⟨vs,hv,h⟩:=zA h;unfold JB at h;obtain⟨td,_,h⟩:=zA h;split at h
  case h_2=>simp at h
  obtain⟨ed,_,h⟩:=zA h;obtain⟨_,h⟩:=zE h;obtain⟨vs,hv,h⟩:=zA h;split at h
  ·exact pur (jI h)
  ·injection h with h;subst h
   exact⟨λ_=>rfl,λ_=>rfl,λ_=>rfl,λ_=>rfl,by simp,by simp⟩
 case load t x=>obtain⟨v,hv,h⟩:=zA h;exact pur (pur_loadE h)
 case store t x y =>
  obtain⟨v,hv,h⟩:=zA h;obtain⟨u,hu,h⟩:=zA h;unfold J8 at h;obtain⟨td,_,h⟩:=zA h;split at h
  ·obtain⟨ob,hob,h⟩:=zA h;obtain⟨_,h⟩:=zE h;obtain⟨_,h⟩:=zE h;obtain⟨v,hv,h⟩:=zA h;obtain⟨y,hy,h⟩:=zA h;obtain⟨_,h⟩:=zE h;obtain⟨blk,hb,h⟩:=zA h;injection h with h;subst h
   refine⟨by simp[jw],λ_=>rfl,λ_=>rfl,by simp,λb' k e=>?_,by simp⟩
   injection e with e;injection e with e1 e2;subst e1
   exact⟨ob,hob⟩
  ·simp at h
 case nilCheck x=>obtain⟨v,hv,h⟩:=zA h;exact pur (zGM h)
 case binOp op t x y c =>
  obtain⟨v,hv,h⟩:=zA h;obtain⟨u,hu,h⟩:=zA h;split at h
  ·obtain⟨_,h⟩:=zE h;obtain⟨_,_,h⟩:=zA h;exact pur (jI h)
  ·simp at h
 case unOp op t x =>
  obtain⟨v,hv,h⟩:=zA h;split at h
  ·obtain⟨_,_,h⟩:=zA h;exact pur (jI h)
  ·simp at h
 case convert t1 t2 x =>
  obtain⟨v,hv,h⟩:=zA h;split at h
  ·obtain⟨_,_,h⟩:=zA h;exact pur (jI h)
  ·simp at h
 case makeFunc fn fs cs =>
  cases fn <;> try (simp[jY] at h;done)
  simp only[jY] at h;obtain⟨x,hx,h⟩:=zA h;obtain⟨y,hy,h⟩:=zA h;obtain⟨_,h⟩:=zE h;exact pur (jI h)
 case makeMap t r =>
  cases r with
  | some r=>simp at h
  | none =>
   simp only at h;obtain⟨td,_,h⟩:=zA h;split at h
   ·injection h with h;subst h
    exact⟨λ_=>rfl,λ_=>rfl,λ_=>rfl,λ_=>rfl,by simp,by simp⟩
   ·simp at h
 case makeSlice t x y =>
  obtain⟨v,hv,h⟩:=zA h;obtain⟨u,hu,h⟩:=zA h;unfold Jh at h;obtain⟨td,_,h⟩:=zA h;split at h
  ·obtain⟨_,_,h⟩:=zA h;obtain⟨_,_,h⟩:=zA h;obtain⟨_,_,h⟩:=zA h;obtain⟨_,h⟩:=zE h;injection h with h;subst h
   exact⟨λ_=>rfl,λ_=>rfl,λ_=>rfl,λ_=>rfl,by simp,by simp⟩
  ·simp at h
 case slice t x lo hi mx =>
  obtain⟨v,hv,h⟩:=zA h;obtain⟨_,_,h⟩:=zA h;obtain⟨_,_,h⟩:=zA h;obtain⟨_,_,h⟩:=zA h;exact pur (pur_sliceE h)
 case fieldAddr t x i=>obtain⟨v,hv,h⟩:=zA h;exact pur (zEF h)
 case field t x i=>obtain⟨v,hv,h⟩:=zA h;exact pur (pur_fieldE h)
 case indexAddr t x i =>
  obtain⟨v,hv,h⟩:=zA h;obtain⟨_,_,h⟩:=zA h;exact pur (zEE h)
 case index t x i =>
  obtain⟨v,hv,h⟩:=zA h;obtain⟨_,_,h⟩:=zA h;exact pur (pur_indexE h)
 case lookup t m k ok =>
  obtain⟨_,_,h⟩:=zA h;obtain⟨_,_,h⟩:=zA h;exact pur (zIw h)
 case mapUpdate t m k x =>
  obtain⟨v,hv,h⟩:=zA h;obtain⟨_,_,h⟩:=zA h;obtain⟨_,_,h⟩:=zA h;unfold jG at h;obtain⟨td,_,h⟩:=zA h;split at h
  ·obtain⟨_,_,h⟩:=zA h;obtain⟨_,_,h⟩:=zA h;split at h
   ·obtain⟨_,h⟩:=zE h;obtain⟨_,h⟩:=zE h;split at h
    ·rename_i hsl;obtain⟨_,_,h⟩:=zA h;injection h with h;subst h
     refine⟨by simp[jw],λ_=>rfl,λ_=>rfl,by simp,λb' k e=>?_,by simp⟩
     injection e with e;injection e with e1 e2;subst e1
     exact⟨_,hsl⟩
    ·simp at h
   ·simp at h
  ·simp at h
 case insert t m k x =>
  obtain⟨v,hv,h⟩:=zA h;obtain⟨_,_,h⟩:=zA h;obtain⟨_,_,h⟩:=zA h;unfold jG at h;obtain⟨td,_,h⟩:=zA h;split at h
  ·obtain⟨_,_,h⟩:=zA h;obtain⟨_,_,h⟩:=zA h;split at h
   ·obtain⟨_,h⟩:=zE h;obtain⟨_,h⟩:=zE h;split at h
    ·rename_i hsl;obtain⟨_,_,h⟩:=zA h;injection h with h;subst h
     refine⟨by simp[jw],λ_=>rfl,λ_=>rfl,by simp,λb' k e=>?_,by simp⟩
     injection e with e;injection e with e1 e2;subst e1
     exact⟨_,hsl⟩
    ·simp at h
   ·simp at h
  ·simp at h
 case range t x =>
  obtain⟨td,_,h⟩:=zA h;split at h
  ·obtain⟨v,hv,h⟩:=zA h;unfold zGL at h;split at h
   ·injection h with h;subst h
    exact⟨λ_=>rfl,λ_=>rfl,λ_=>rfl,λ_=>rfl,by simp,by simp⟩
   ·simp at h
  ·simp at h
 case next x b =>
  obtain⟨v,hv,h⟩:=zA h;unfold zAL at h;split at h
  ·obtain⟨_,h⟩:=zE h;split at h
   ·rename_i hsl;split at h
    ·injection h with h;subst h
     refine⟨by simp[jw],λ_=>rfl,λ_=>rfl,by simp,λb' k e=>?_,by simp⟩
     injection e with e;injection e with e1 e2;subst e1
     exact⟨_,hsl⟩
    ·exact pur (jI h)
   ·simp at h
  ·simp at h
 case extract x i=>obtain⟨v,hv,h⟩:=zA h;exact pur (zHp h)
 case call c =>
  obtain⟨vs,hv,h⟩:=zA h;cases hc:c.callee with
  | invoke r m=>rw[hc] at h;simp at h
  | value f =>
   rw[hc] at h;simp only at h;obtain⟨vf,hvf,h⟩:=zA h;unfold qe at h;obtain⟨c',hc',h⟩:=zA h;obtain⟨ds,_,h⟩:=zA h;obtain⟨r,_,h⟩:=zA h;injection h with h;subst h
   refine⟨λ_=>by cases r <;> rfl,λ_=>by cases r <;> rfl,λhh=>absurd hc ((hh c rfl).2.2 f),λ_=>by simp[owns,hc],λb k e=>by cases r <;> simp[deliver] at e,λb e=>by cases r <;> simp[deliver] at e⟩
  | builtin b =>
   rw[hc] at h;cases b <;> try (simp at h;done)
   ·
    simp only at h;unfold JP at h;split at h
    case h_2=>simp at h
    rename_i x y;split at h
    case h_2=>simp at h
    obtain⟨_,h⟩:=zE h;obtain⟨td,_,h⟩:=zA h;split at h
    case h_2=>simp at h
    obtain⟨ed,_,h⟩:=zA h;obtain⟨bs,hbs,h⟩:=zA h;obtain⟨el,hel,h⟩:=zA h;obtain⟨_,h⟩:=zE h;split at h
    ·exact pur (jI h)
    ·injection h with h;subst h
     refine⟨λ_=>rfl,λhh=>absurd hc (hh c rfl),λhh=>absurd hc (hh c rfl).1,λ_=>by simp[owns,hc],by simp,λb e=>?_⟩
     unfold YK at hbs;split at hbs
     ·injection hbs with hbs;subst hbs;simp at e
     ·split at hbs
      ·split at hbs
       ·rename_i hsl;split at hbs
        ·injection hbs with hbs;subst hbs
         simp only[Option.some.injEq] at e;subst e;exact⟨_,hsl⟩
        ·simp at hbs
       ·simp at hbs
      ·simp at hbs
     ·simp at hbs
   ·
    simp only at h;unfold zA3 at h;split at h
    case h_2=>simp at h
    split at h
    case h_2=>simp at h
    obtain⟨td,_,h⟩:=zA h;split at h
    case h_2=>simp at h
    obtain⟨ed,_,h⟩:=zA h;split at h
    case h_2=>simp at h
    obtain⟨_,h⟩:=zE h;split at h
    case h_2=>simp at h
    rename_i hsl;obtain⟨_,h⟩:=zE h;obtain⟨el,hel,h⟩:=zA h;injection h with h;subst h
    refine⟨by simp[jw,hc],λ_=>rfl,λhh=>absurd hc (hh c rfl).2.1,by simp,λb' k e=>?_,by simp⟩
    injection e with e;injection e with e1 e2;subst e1
    exact⟨_,hsl⟩
   ·exact pur (pur_lenE h)
   ·exact pur (pur_maxE h)
   ·exact pur (pur_minE h)
theorem zFC{call:FuncId->List DV->Option CR}{c:Call}{dst:Nat}{tm:List AV}{ef:Eff}(h:jY E call (.call c) dst tm hp=some ef)(hc:c.callee=.builtin .append) :
  (∀x,c.args.toList.head? = some x->∀b off len sz,evO E tm x=some (.own b off len sz)->ef.kil=some b) /\
  (∀b,ef.kil=some b->∃x len sz,c.args.toList.head? = some x/\evO E tm x=some (.own b 0 len sz)):=by
 simp only[jY] at h;obtain⟨vs,hv,h⟩:=zA h;rw[hc] at h;simp only at h;unfold JP at h;split at h
 case h_2=>simp at h
 rename_i x y;split at h
 case h_2=>simp at h
 obtain⟨_,h⟩:=zE h;obtain⟨td,_,h⟩:=zA h;split at h
 case h_2=>simp at h
 obtain⟨ed,_,h⟩:=zA h;obtain⟨bs,hbs,h⟩:=zA h;obtain⟨el,hel,h⟩:=zA h;obtain⟨_,h⟩:=zE h;obtain⟨z,zs,hz,hev⟩:∃z zs,c.args.toList=z :: zs/\evO E tm z=some x:=by
  cases hl:c.args.toList with
  | nil=>rw[hl] at hv;simp[evL] at hv
  | cons z zs =>
   rw[hl] at hv;simp only[evL] at hv;obtain⟨v,hv1,hv⟩:=zA hv;obtain⟨vs,_,hv⟩:=zA hv;injection hv with hv
   injection hv with e1 e2;exact⟨z,zs,rfl,by rw[hv1,e1]⟩
 have hb:(∀b off len sz,x=.own b off len sz->bs.2=some b)/\∀b,bs.2=some b->∃len sz,x=.own b 0 len sz:=by
  unfold YK at hbs;split at hbs
  ·injection hbs with hbs;subst hbs;simp
  ·split at hbs
   ·rename_i hcond;split at hbs
    ·split at hbs
     ·injection hbs with hbs;subst hbs
      refine⟨λb off len sz e=>by injection e with e1;rw[e1],λb e=>?_⟩
      simp only[Option.some.injEq] at e;subst e;rw[hcond.2];exact⟨_,_,rfl⟩
     ·simp at hbs
    ·simp at hbs
   ·simp at hbs
  ·simp at hbs
 split at h
 ·rename_i e1 _;refine⟨λw hw b off len sz hwv=>?_,λb e=>?_⟩
  ·rw[hz] at hw;simp only[List.head?_cons,Option.some.injEq] at hw;subst hw;rw[hev] at hwv;injection hwv with hwv
   rw[hb.1 b off len sz hwv] at e1;simp at e1
  ·simp[zc] at h;subst h;simp at e
 ·injection h with h;subst h
  refine⟨λw hw b off len sz hwv=>?_,λb e=>?_⟩
  ·rw[hz] at hw;simp only[List.head?_cons,Option.some.injEq] at hw;subst hw;rw[hev] at hwv;injection hwv with hwv
   exact hb.1 b off len sz hwv
  ·obtain⟨len,sz,e⟩:=hb.2 b e;exact⟨z,len,sz,by rw[hz];rfl,by rw[hev,e]⟩
theorem effE_quiet{ops:List Oper}{call:FuncId->List DV->Option CR}{op:Op}(hq:(cls ops op).heeds=false)(dst:Nat)(tm:List AV)(hp hp':List (Option OB)):jY E call op dst tm hp=jY E call op dst tm hp':=by
 cases op <;> simp only[jY]
 case makeFunc fn fs cs=>cases fn <;> simp only[jY]
 case call c =>
  cases hc:c.callee with
  | value f=>simp[cls,hc,Cls.heeds] at hq
  | invoke r m=>rfl
  | builtin b =>
   cases b <;> try (simp only;done)
   ·simp only[cls,hc] at hq;split at hq <;> (try (simp[Cls.heeds] at hq;done))
    split at hq <;> (try (simp[Cls.heeds] at hq;done))
    split at hq <;> simp[Cls.heeds] at hq
   ·simp[cls,hc,Cls.heeds] at hq
   ·simp[cls,hc,Cls.heeds] at hq
 all_goals (simp[cls,Cls.heeds] at hq)
theorem zJv{call:FuncId->List DV->Option CR}{op:Op}(ho:owns op=false)(d d':Nat)(tm:List AV):jY E call op d tm hp=jY E call op d' tm hp:=by
 cases op <;> simp only[jY]
 case makeFunc fn fs cs=>cases fn <;> simp only[jY]
 case call c =>
  cases hc:c.callee with
  | value f=>simp[owns,hc] at ho
  | invoke r m=>rfl
  | builtin b =>
   cases b <;> try (simp only;done)
   simp[owns,hc] at ho
 all_goals (simp[owns] at ho)
end
end Go.Am
namespace Go.Am
open Go.Proofs
open Go Go.RowKit
def freeRef(s:Nat)(st:St):Prop:=slot st.hp s=none/\(∀(t:Nat) (v:AV),st.tm[t]? = some v->zf s v=true)/\∀b ob,slot st.hp b=some ob->zh s ob.blk=true
def onlyAt(s:Nat)(st:St):Prop:=(∀(t:Nat) (v:AV),t≠s->st.tm[t]? = some v->zf s v=true)/\∀b ob,slot st.hp b=some ob->zh s ob.blk=true
def zCG(loud:Bool)(may:Option Nat)(o:Oper)(ef:Eff):Option Eff :=
 zm (ef.ok && (loud || (ef.upd.isNone && (ef.kil.isNone || ef.kil == may)))) (match ef.new with
  | none=>some ef
  | some b=>zm (o.dst.isSome && zh (zW o) b) (some ef))
def zAc(E:Env)(call:FuncId->List DV->Option CR)(ops:List Oper)(o:Oper)(st:St):Option Eff :=
 bnd (jc ops o st.tm) λg=>match g with
  | false=>some { v:=.d (.tup []) }
  | true=>bnd (jY E call o.op (zW o) st.tm st.hp) (zCG (cls ops o.op).loud (qa ops o.op) o)
def jz(E:Env)(call:FuncId->List DV->Option CR)(ops:List Oper)(o:Oper)(st:St):Option St :=
 bnd (zAc E call ops o st) λef=>zm (ef.new.isNone || (slot st.hp (zW o)).isNone) (some (zj ef o.dst (zW o) st))
section
variable{E:Env}{call:FuncId->List DV->Option CR}{ops:List Oper}
theorem Jb{loud:Bool}{may:Option Nat}{o:Oper}{ef e:Eff}(h:zCG loud may o ef=some e):e=ef/\ef.ok=true/\(loud=true\/(ef.upd=none/\(ef.kil=none\/ef.kil=may)))/\∀b,ef.new=some b->o.dst.isSome=true/\zh (zW o) b=true:=by
 unfold zCG at h;obtain⟨h1,h⟩:=zE h;simp only[Bool.and_eq_true,Bool.or_eq_true,Option.isNone_iff_eq_none,beq_iff_eq] at h1;cases hn:ef.new with
 | none =>
  rw[hn] at h;injection h with h
  exact⟨h.symm,h1.1,h1.2,by simp⟩
 | some b =>
  rw[hn] at h;obtain⟨h2,h⟩:=zE h;injection h with h
  simp only[Bool.and_eq_true] at h2;exact⟨h.symm,h1.1,h1.2,λb' e=>by injection e with e;subst e;exact h2⟩
theorem J7{o:Oper}{st:St}{ef:Eff}(h:zAc E call ops o st=some ef):(jc ops o st.tm=some false/\ef={ v:=.d (.tup []) })\/(jc ops o st.tm=some true/\jY E call o.op (zW o) st.tm st.hp=some ef/\zCG (cls ops o.op).loud (qa ops o.op) o ef=some ef):=by
 unfold zAc at h;obtain⟨g,hg,h⟩:=zA h;cases g with
 | false=>injection h with h;exact .inl ⟨hg,h.symm⟩
 | true =>
  obtain⟨e,he,h⟩:=zA h;have:=(Jb h).1;subst this;exact .inr ⟨hg,he,h⟩
theorem Yh{o:Oper}{st:St}{ef:Eff}(h:zAc E call ops o st=some ef):Form st.hp o.op ef/\ef.ok=true/\((cls ops o.op).loud=true\/(ef.upd=none/\(ef.kil=none\/ef.kil=qa ops o.op)))/\∀b,ef.new=some b->o.dst.isSome=true/\zh (zW o) b=true:=by
 rcases J7 h with ⟨_,rfl⟩ | ⟨_,he,hc⟩
 ·exact⟨⟨λ_=>rfl,λ_=>rfl,λ_=>rfl,by simp,by simp,by simp⟩,rfl,.inr ⟨rfl,.inl rfl⟩,by simp⟩
 ·obtain⟨_,h1,h2,h3⟩:=Jb hc;exact⟨Qd he,h1,h2,h3⟩
theorem qU{o:Oper}{t:Tmp}(h:Operand.tmp t∈o.op.operands):t∈looks ops o:=by unfold looks;refine List.mem_append_left _ (List.mem_filterMap.2 ⟨.tmp t,by simpa using h,rfl⟩)
theorem zCr{o:Oper}{tm:List AV}{dst:Option Tmp}{v:AV}(h:∀d,dst=some d->d ∉ looks ops o):∀x∈o.op.operands,evO E tm x=evO E (jh tm dst v) x:=by
 intro x hx;cases dst with
 | none=>rfl
 | some d =>
  cases x with
  | tmp t =>
   have hne:d≠t:=by rintro rfl;exact h d rfl (qU hx)
   simp only[evO,jh];rw[List.getElem?_set_ne hne]
  | _=>rfl
theorem zEt{o:Oper}{tm:List AV}{dst:Option Tmp}{v:AV}(h:∀d,dst=some d->d ∉ looks ops o):jc ops o tm=jc ops o (jh tm dst v):=by
 cases dst with
 | none=>rfl
 | some d =>
  unfold jc;cases hg:o.guard with
  | none=>rfl
  | some p =>
   obtain⟨j,want⟩:=p;simp only;cases hj:ops[j]? with
   | none=>rfl
   | some g =>
    simp only;cases hd:g.dst with
    | none=>rfl
    | some t =>
     have hne:d≠t:=by rintro rfl;refine h d rfl ?_;unfold looks;refine List.mem_append_right _ ?_;simp[hg,hj,hd]
     simp only[jh];rw[List.getElem?_set_ne hne]
theorem qA{o:Oper}{tm:List AV}{s:Nat}(h:∀(t:Nat) (v:AV),t∈looks ops o->tm[t]? = some v->zf s v=true):∀x∈o.op.operands,∀v,evO E tm x=some v->zf s v=true:=by
 intro x hx v hv;cases x with
 | tmp t=>exact h t v (qU hx) hv
 | const c=>simp only[evO] at hv;split at hv <;> simp at hv;subst hv;rfl
 | global g=>simp only[evO] at hv;split at hv <;> simp at hv;subst hv;rfl
 | func f=>simp only[evO,Option.some.injEq] at hv;subst hv;rfl
theorem untouched{o:Oper}{st:St}{ef:Eff}(h:zAc E call ops o st=some ef){s:Nat}(hd:o.dst≠some s)(hown:owns o.op=true->o.dst.isSome=true)
  (hl:∀(t:Nat) (v:AV),t∈looks ops o->st.tm[t]? = some v->zf s v=true) (hh:∀b ob,slot st.hp b=some ob->zh s ob.blk=true):Eff.off s ef\/(o.dst=none/\ef.new=none/\(∀b k,ef.upd=some (b,k)->b≠s/\zh s k=true)/\ef.kil≠some s/\s ∉ ef.frz):=by
 rcases J7 h with ⟨_,rfl⟩ | ⟨_,he,hc⟩
 ·exact .inl (zn rfl)
 ·cases hdst:o.dst with
  | some d =>
   left;have:s≠zW o:=by unfold zW;rw[hdst];simp;rintro rfl;exact hd hdst
   exact zE4 he this (qA hl) hh
  | none =>
   right;have hno:owns o.op=false:=by
    cases hx:owns o.op with
    | false=>rfl
    | true=>have:=hown hx;rw[hdst] at this;simp at this
   have hnew:ef.new=none:=by
    cases hn:ef.new with
    | none=>rfl
    | some b=>have:=(Qd he).new (by simp[hn]);rw[hno] at this;simp at this
   rw[zJv hno _ (s+1)] at he;have ho:=zE4 he (by omega) (qA hl) hh
   exact⟨rfl,hnew,ho.upd,ho.kil,ho.frz⟩
theorem J0{o:Oper}{st:St}{ef:Eff}(h:zAc E call ops o st=some ef){s:Nat}(hd:o.dst≠some s)(hown:owns o.op=true->o.dst.isSome=true)
  (hl:∀(t:Nat) (v:AV),t∈looks ops o->st.tm[t]? = some v->zf s v=true) (hh:∀b ob,slot st.hp b=some ob->zh s ob.blk=true):¬ef.touch (zW o) s:=by
 have hs:ef.new.isSome=true->s≠zW o:=λhn=>by obtain⟨b,hb⟩:=Option.isSome_iff_exists.1 hn;obtain⟨hds,_⟩:=(Yh h).2.2.2 b hb;obtain⟨d,hdd⟩:=Option.isSome_iff_exists.1 hds;unfold zW;rw[hdd];simp;rintro rfl;exact hd hdd
 rcases untouched h hd hown hl hh with ho | ⟨_,hn,h1,h2,h3⟩
 ·rintro (a | ⟨k,a⟩ | a | ⟨a,b⟩)
  ·exact ho.frz a
  ·exact(ho.upd s k a).1 rfl
  ·exact ho.kil a
  ·exact hs a b
 ·rintro (a | ⟨k,a⟩ | a | ⟨a,b⟩)
  ·exact h3 a
  ·exact(h1 s k a).1 rfl
  ·exact h2 a
  ·exact hs a b
structure Pair(ops:List Oper)(a b:Oper):Prop where
 ma:a∈ops
 mb:b∈ops
 oa:owns a.op=true->a.dst.isSome=true
 ob:owns b.op=true->b.dst.isSome=true
 ne:∀d,a.dst=some d->b.dst≠some d
 ab:∀d,a.dst=some d->d ∉ looks ops b
 ba:∀d,b.dst=some d->d ∉ looks ops a
 la:(cls ops a.op).loud=true->(cls ops b.op).heeds=false
 lb:(cls ops b.op).loud=true->(cls ops a.op).heeds=false
theorem Pair.symm{a b:Oper}(h:Pair ops a b):Pair ops b a:=⟨h.mb,h.ma,h.ob,h.oa,λd hb ha=>h.ne d ha hb,h.ba,h.ab,h.lb,h.la⟩
structure Know(ops:List Oper)(o:Oper)(st:St):Prop where
 free:owns o.op=true->freeRef (zW o) st
 only:∀t,qa ops o.op=some t->onlyAt t st
theorem zBg{op:Op}{t:Tmp}(h:qa ops op=some t):cls ops op=.C/\zIe op=some t/\priv ops t=true:=by
 unfold qa at h;cases hc:cls ops op <;> rw[hc] at h <;> simp at h
 refine⟨rfl,h,?_⟩;cases op <;> simp only[cls] at hc <;> try (cases hc;done)
 rename_i c;cases hcc:c.callee <;> rw[hcc] at hc <;> try (simp at hc;done)
 rename_i bi;cases bi <;> simp only at hc <;> try (cases hc;done)
 split at hc
 ·cases hc
 ·rw[h] at hc;simp only at hc;split at hc
  ·assumption
  ·cases hc
theorem zDu{o:Oper}{t:Tmp}(h:zIe o.op=some t):t∈looks ops o:=by
 unfold zIe at h;split at h
 ·rename_i c hop;split at h
  ·rename_i t' hcc hx;injection h with h;subst h
   refine qU ?_;rw[hop];simp only[Op.operands,Call.operands];have:Operand.tmp t'∈c.args.toList:=List.mem_of_mem_head? hx;simp;exact .inr (by simpa using this)
  ·simp at h
 ·simp at h
theorem zJX{t:Tmp}(h:priv ops t=true){x y:Oper}(hx:x∈ops)(hy:y∈ops)(hne:x≠y)(lx:t∈looks ops x):t ∉ looks ops y:=by
 intro ly;unfold priv at h;simp only[Bool.and_eq_true,decide_eq_true_eq] at h;have hlen:=h.2;have mx:x∈ops.filter λo=>(looks ops o).contains t:=List.mem_filter.2 ⟨hx,by simpa using lx⟩
 have my:y∈ops.filter λo=>(looks ops o).contains t:=List.mem_filter.2 ⟨hy,by simpa using ly⟩
 match hf:ops.filter λo=>(looks ops o).contains t with
 | []=>rw[hf] at mx;simp at mx
 | [z]=>rw[hf] at mx my;simp at mx my;exact hne (mx.trans my.symm)
 | _ :: _ :: _=>rw[hf] at hlen;simp at hlen
theorem zDm{op:Op}(h:(cls ops op).heeds=false):jw op=false/\(∀c,op=.call c->c.callee≠.builtin .append/\c.callee≠.builtin .copy/\∀f,c.callee≠.value f):=by
 cases op <;> simp only[cls] at h <;> try (simp[Cls.heeds] at h;done)
 all_goals try (exact⟨rfl,by simp⟩)
 rename_i c;refine⟨?_,λc' e=>?_⟩
 ·simp only[jw];split
  ·rename_i hc;rw[hc] at h;simp[Cls.heeds] at h
  ·rfl
 ·injection e with e;subst e
  refine⟨λhc=>?_,λhc=>?_,λf hc=>?_⟩
  ·rw[hc] at h;simp only at h;split at h
   ·simp[Cls.heeds] at h
   ·split at h
    ·split at h <;> simp[Cls.heeds] at h
    ·simp[Cls.heeds] at h
  ·rw[hc] at h;simp[Cls.heeds] at h
  ·rw[hc] at h;simp[Cls.heeds] at h
theorem zIm{op:Op}(h:jw op=true):(cls ops op).loud=true:=by
 cases op <;> simp only[jw] at h <;> try (simp at h;done)
 all_goals try rfl
 rename_i c;split at h
 ·rename_i hc;simp[cls,hc,Cls.loud]
 ·simp at h
theorem Pair.priv{a b:Oper}(h:Pair ops a b){t:Tmp}(ht:qa ops a.op=some t)(hds:a.dst.isSome=true):t ∉ looks ops b/\b.dst≠some t:=by
 obtain⟨_,h2,h3⟩:=zBg ht;have hla:=zDu (ops:=ops) h2;refine⟨zJX h3 h.ma h.mb ?_ hla,λhb=>h.ba t hb hla⟩
 rintro rfl;obtain⟨d,hd⟩:=Option.isSome_iff_exists.1 hds;exact h.ne d hd hd
theorem kil_dst{o:Oper}{st:St}{ef:Eff}(h:zAc E call ops o st=some ef){b:Nat}(hk:ef.kil=some b)(hown:owns o.op=true->o.dst.isSome=true):o.dst.isSome=true:=by
 refine hown ?_;rcases J7 h with ⟨_,rfl⟩ | ⟨_,he,_⟩
 ·simp at hk
 ·cases hx:owns o.op with
  | true=>rfl
  | false =>
   have:=(Qd he).kil (λc e hc=>by rw[e] at hx;simp[owns,hc] at hx)
   rw[this] at hk;simp at hk
theorem zJO{x y:Oper}{st:St}(hp:Pair ops x y)(ky:Know ops y st)(kx:Know ops x st){ey:Eff}(hy:zAc E call ops y st=some ey)
  (hok:∃e,(jY E call x.op (zW x) st.tm st.hp=some e\/jY E call x.op (zW x) (zj ey y.dst (zW y) st).tm (zj ey y.dst (zW y) st).hp=some e) /\
   ((cls ops x.op).loud=true\/(e.kil=none\/e.kil=qa ops x.op))) :
  jY E call x.op (zW x) st.tm st.hp=jY E call x.op (zW x) (zj ey y.dst (zW y) st).tm (zj ey y.dst (zW y) st).hp:=by
 have htm:(zj ey y.dst (zW y) st).tm=jh st.tm y.dst ey.v:=rfl;have hev:=zCr (E:=E) (ops:=ops) (o:=x) (tm:=st.tm) (dst:=y.dst) (v:=ey.v) hp.ba;rw[htm] at hok ⊢;rw[<-effE_tm (hp:=(zj ey y.dst (zW y) st).hp) hev] at hok ⊢;cases hx:(cls ops x.op).heeds with
 | false=>exact effE_quiet hx _ _ _ _
 | true =>
  have hyl:(cls ops y.op).loud=false:=by
   cases h:(cls ops y.op).loud with
   | false=>rfl
   | true=>have:=hp.lb h;rw[hx] at this;cases this
  obtain⟨hF,_,hchk,hnew⟩:=Yh hy;have hchk':ey.upd=none/\(ey.kil=none\/ey.kil=qa ops y.op):=by
   rcases hchk with h | h
   ·rw[hyl] at h;cases h
   ·exact h
  have hko:∀s,ey.kil=some s->onlyAt s st/\s ∉ looks ops x:=λs hs=>by
   have hm:qa ops y.op=some s:=by
    rcases hchk'.2 with e | e
    ·rw[e] at hs;cases hs
    ·rw[<-e];exact hs
   exact⟨ky.only s hm,(hp.symm.priv hm (kil_dst hy hs hp.ob)).1⟩
  have hno:∀s,ey.new.isSome=true->s=zW y->freeRef s st:=λs hn e=>by subst e;exact ky.free (hF.new hn)
  let X:Nat->Prop:=λs=>(ey.new.isSome=true/\s=zW y)\/ey.kil=some s
  have hnr:∀o∈x.op.operands,∀v,evO E st.tm o=some v->nrX X v:=λo ho v hv s hs=>by
   rcases hs with ⟨hn,e⟩ | hk
   ·exact qA (E:=E) (ops:=ops) (o:=x) (λt v _ h=>(hno s hn e).2.1 t v h) o ho v hv
   ·obtain⟨h1,h2⟩:=hko s hk;exact qA (E:=E) (ops:=ops) (o:=x) (λt v ht h=>h1.1 t v (by rintro rfl;exact h2 ht) h) o ho v hv
  have hslot:∀b,¬X b->slot (zj ey y.dst (zW y) st).hp b=F1 ey b (slot st.hp b):=by
   intro b hb;have hb1:ey.kil≠some b:=λh=>hb (.inr h)
   have hb2:ey.new.isSome=true->b≠zW y:=λh e=>hb (.inl ⟨h,e⟩)
   rw[Yk,JM];have hff:∀o,FF ey (zW y) b o=F1 ey b o:=λo=>by
    unfold FF F2 F3 F4;rw[hchk'.1,if_neg hb1];cases hn:ey.new with
    | none=>rfl
    | some k=>simp only;rw[if_neg (hb2 (by simp[hn]))]
   cases st.hp[b]? with
   | none=>simp[F1,fzO]
   | some o=>simp only[Option.join_some];exact hff o
  have hsim:HSim X st.hp (zj ey y.dst (zW y) st).hp:=⟨λb hb=>by
   rw[hslot b hb];unfold F1;split
   ·cases slot st.hp b <;> rfl
   ·rfl,λb ob _ hs s hX=>by
   rcases hX with ⟨hn,e⟩ | hk
   ·exact(hno s hn e).2.2 b ob hs
   ·exact(hko s hk).1.2 b ob hs⟩
  have hquiet:(cls ops x.op).loud=true->∀b,¬X b->slot st.hp b=slot (zj ey y.dst (zW y) st).hp b:=λhl b hb=>by obtain⟨q1,q2⟩:=zDm (hp.la hl);rw[hslot b hb];unfold F1;rw[hF.frz q2];simp
  refine effE_hp hsim hnr (λhw=>hquiet (zIm hw)) λc z hop hcc hz b off len sz hzv=>?_
  obtain⟨e,he,hkil⟩:=hok;have hek:e.kil=some b:=by
   rw[hop] at he;rcases he with he | he
   ·exact(zFC he hcc).1 z hz b off len sz hzv
   ·exact(zFC he hcc).1 z hz b off len sz hzv
  have hzo:z∈x.op.operands:=by rw[hop];simp only[Op.operands,Call.operands];have:z∈c.args.toList:=List.mem_of_mem_head? hz;simp;exact .inr (by simpa using this)
  rcases hkil with hl | hl | hl
  ·exact hquiet hl b (hnr z hzo _ hzv).own
  ·rw[hek] at hl;cases hl
  ·rw[hek] at hl;have hxd:x.dst.isSome=true:=hp.oa (by rw[hop];simp[owns,hcc])
   obtain⟨p1,p2⟩:=hp.priv hl.symm hxd;have honly:=kx.only b hl.symm;have hnt:=J0 hy p2 hp.ob (λt v ht h=>honly.1 t v (by rintro rfl;exact p1 ht) h) honly.2
   rw[Yk,JM];cases st.hp[b]? with
   | none=>rfl
   | some o=>simp only[Option.join_some];rw[zD9 hnt]
theorem swap{a b:Oper}{st st1 st2:St}(hp:Pair ops a b)(ka:Know ops a st)(kb:Know ops b st)(h1:jz E call ops a st=some st1)(h2:jz E call ops b st1=some st2) :
  ∃st1',jz E call ops b st=some st1'/\jz E call ops a st1'=some st2:=by
 unfold jz at h1 h2;obtain⟨ea,hea,h1⟩:=zA h1;obtain⟨g1,h1⟩:=zE h1;injection h1 with h1;subst h1
 obtain⟨eb,heb,h2⟩:=zA h2;obtain⟨g2,h2⟩:=zE h2;injection h2 with h2;subst h2
 have heb0:zAc E call ops b st=some eb:=by
  have hg:jc ops b st.tm=jc ops b (zj ea a.dst (zW a) st).tm:=zEt hp.ab;rcases J7 heb with ⟨hb,rfl⟩ | ⟨hb,he,hc⟩
  ·unfold zAc;rw[hg,hb];rfl
  ·have hs:=zJO hp.symm ka kb hea ⟨eb,.inr he,by
    obtain⟨_,_,h,_⟩:=Jb hc;exact h.imp id (·.2)⟩
   unfold zAc;rw[hg,hb];simp only[zG];rw[hs,he];exact hc
 obtain⟨fA,okA,chA,nwA⟩:=Yh hea;obtain⟨fB,okB,chB,nwB⟩:=Yh heb0;have g2':(eb.new.isNone || (slot st.hp (zW b)).isNone)=true:=by
  cases hn:eb.new with
  | none=>rfl
  | some k=>simp[(kb.free (fB.new (by simp[hn]))).1]
 refine⟨zj eb b.dst (zW b) st,?_,?_⟩
 ·unfold jz;rw[heb0];simp only[zG,g2',zR]
 ·have hea1:zAc E call ops a (zj eb b.dst (zW b) st)=some ea:=by
   have hg:jc ops a st.tm=jc ops a (zj eb b.dst (zW b) st).tm:=zEt hp.ba;rcases J7 hea with ⟨hb,rfl⟩ | ⟨hb,he,hc⟩
   ·unfold zAc;rw[<-hg,hb];rfl
   ·have hs:=zJO hp kb ka heb0 ⟨ea,.inl he,by
     obtain⟨_,_,h,_⟩:=Jb hc;exact h.imp id (·.2)⟩
    unfold zAc;rw[<-hg,hb];simp only[zG];rw[<-hs,he];exact hc
  have siteNe:ea.new.isSome=true->eb.new.isSome=true->zW a≠zW b:=λha hb=>by obtain⟨k1,e1⟩:=Option.isSome_iff_exists.1 ha;obtain⟨k2,e2⟩:=Option.isSome_iff_exists.1 hb;obtain⟨d1,hd1⟩:=Option.isSome_iff_exists.1 (nwA k1 e1).1;obtain⟨d2,hd2⟩:=Option.isSome_iff_exists.1 (nwB k2 e2).1;unfold zW;rw[hd1,hd2];simp;rintro rfl;exact hp.ne d1 hd1 hd2
  have g1':(ea.new.isNone || (slot (zj eb b.dst (zW b) st).hp (zW a)).isNone)=true:=by
   cases hn:ea.new with
   | none=>rfl
   | some k =>
    have h0:=(ka.free (fA.new (by simp[hn]))).1
    rw[Yk];rw[JM] at h0;cases hx:st.hp[zW a]? with
    | none=>rfl
    | some o =>
     rw[hx] at h0;simp only[Option.join_some] at h0;subst h0;simp only[Option.isNone_some,Bool.false_or];have:FF eb (zW b) (zW a) none=none:=by
      unfold FF F1 F2 F3 F4;simp only[fzO,Option.map_none,ite_self];cases hu:eb.upd with
      | none =>
       simp only[ite_self];cases hb:eb.new with
       | none=>rfl
       | some k2=>simp only;rw[if_neg (siteNe (by simp[hn]) (by simp[hb]))]
      | some p =>
       obtain⟨u,k'⟩:=p;simp only[ite_self];cases hb:eb.new with
       | none=>rfl
       | some k2=>simp only;rw[if_neg (siteNe (by simp[hn]) (by simp[hb]))]
     rw[this];rfl
  unfold jz;rw[hea1];simp only[zG,g1',zR,Option.some.injEq];refine(zJD (d1:=a.dst) (d2:=b.dst) hp.ne λc ta tb=>?_).symm
  have cross:∀{x y:Oper} {ex ey:Eff},Pair ops x y->Know ops x st->Know ops y st->zAc E call ops x st=some ex->zAc E call ops y st=some ey->ex.touch (zW x) c->ey.touch (zW y) c ->
    (∀k,ex.upd≠some (c,k))/\ex.kil≠some c/\(ex.new.isSome=true->c≠zW x):=by
   intro x y ex ey hp kx ky hex hey tx ty;obtain⟨fX,_,chX,nwX⟩:=Yh hex;obtain⟨fY,_,_,_⟩:=Yh hey;have newX:ex.new.isSome=true->c≠zW x:=λhn e=>by
    obtain⟨k,hk⟩:=Option.isSome_iff_exists.1 hn;obtain⟨d,hd⟩:=Option.isSome_iff_exists.1 (nwX k hk).1;have hfree:=kx.free (fX.new hn);have hds:zW x=d:=by unfold zW;rw[hd];rfl
    refine J0 hey (s:=c) ?_ hp.ob (λt v _ h=>by rw[e];exact hfree.2.1 t v h) (λb ob h=>by rw[e];exact hfree.2.2 b ob h) ty
    rw[e,hds];exact hp.ne d hd
   have loudX:(cls ops x.op).loud=true->(∃ob,slot st.hp c=some ob)->False:=λhl ⟨ob,hob⟩=>by
    obtain⟨q1,q2⟩:=zDm (hp.la hl);rcases ty with a | ⟨k,a⟩ | a | ⟨a,e⟩
    ·rw[fY.frz q2] at a;simp at a
    ·rw[fY.upd q1] at a;cases a
    ·rw[fY.kil λc' e=>(q2 c' e).1] at a;cases a
    ·have:=(ky.free (fY.new a)).1;rw[<-e,hob] at this;cases this
   refine⟨λk hu=>?_,λhk=>?_,newX⟩
   ·rcases chX with hl | ⟨hn,_⟩
    ·exact loudX hl (fX.liveU c k hu)
    ·rw[hn] at hu;cases hu
   ·rcases chX with hl | ⟨_,hn | hm⟩
    ·exact loudX hl (fX.liveK c hk)
    ·rw[hn] at hk;cases hk
    ·rw[hk] at hm;have hds:=kil_dst hex hk hp.oa;obtain⟨p1,p2⟩:=hp.priv hm.symm hds;have honly:=kx.only c hm.symm;exact J0 hey p2 hp.ob (λt v ht h=>honly.1 t v (by rintro rfl;exact p1 ht) h) honly.2 ty
  have ca:=cross hp ka kb hea heb0 ta tb;have cb:=cross hp.symm kb ka heb0 hea tb ta;have fin:∀{e:Eff} {s:Nat},e.touch s c->(∀k,e.upd≠some (c,k))/\e.kil≠some c/\(e.new.isSome=true->c≠s)->e.marks s c:=by
   intro e s t h;refine⟨?_,h.1,h.2.1,h.2.2⟩;rcases t with a | ⟨k,a⟩ | a | ⟨a,b⟩
   ·exact a
   ·exact absurd a (h.1 k)
   ·exact absurd a h.2.1
   ·exact absurd b (h.2.2 a)
  exact⟨fin ta ca,fin tb cb⟩
end
end Go.Am
namespace Go.Am
open Go.Proofs
open Go Go.RowKit
section
variable{E:Env}{call:FuncId->List DV->Option CR}{ops:List Oper}{s:Nat}
theorem FF_noRef{ef:Eff}{site b:Nat}{o:Option OB}{ob:OB}(h:FF ef site b o=some ob)(ho:∀ob0,o=some ob0->zh s ob0.blk=true)(hn:∀k,ef.new=some k->zh s k=true)(hu:∀b k,ef.upd=some (b,k)->zh s k=true):zh s ob.blk=true:=by
 have h1:∀ob0,F1 ef b o=some ob0->zh s ob0.blk=true:=λob0 h=>by
  unfold F1 at h;split at h
  ·cases o with
   | none=>simp[fzO] at h
   | some x=>simp only[fzO,Option.map_some,Option.some.injEq] at h;subst h;exact ho x rfl
  ·exact ho ob0 h
 have h2:∀ob0,F2 ef b (F1 ef b o)=some ob0->zh s ob0.blk=true:=λob0 h=>by
  unfold F2 at h;cases hup:ef.upd with
  | none=>rw[hup] at h;exact h1 ob0 h
  | some p =>
   obtain⟨u,k⟩:=p;rw[hup] at h;simp only at h;split at h
   ·cases hx:F1 ef b o with
    | none=>rw[hx] at h;simp at h
    | some x=>rw[hx] at h;simp only[Option.map_some,Option.some.injEq] at h;subst h;exact hu u k hup
   ·exact h1 ob0 h
 have h3:∀ob0,F3 ef b (F2 ef b (F1 ef b o))=some ob0->zh s ob0.blk=true:=λob0 h=>by
  unfold F3 at h;split at h
  ·cases h
  ·exact h2 ob0 h
 unfold FF F4 at h;cases hnew:ef.new with
 | none=>rw[hnew] at h;exact h3 ob h
 | some k =>
  rw[hnew] at h;simp only at h;split at h
  ·injection h with h;subst h;exact hn k hnew
  ·exact h3 ob h
theorem zCE{ef:Eff}{dst:Option Tmp}{site:Nat}{st:St}(h:∀b ob,slot st.hp b=some ob->zh s ob.blk=true)(hn:∀k,ef.new=some k->zh s k=true)(hu:∀b k,ef.upd=some (b,k)->zh s k=true) :
  ∀b ob,slot (zj ef dst site st).hp b=some ob->zh s ob.blk=true:=by
 intro b ob hb;rw[Yk] at hb;cases ho:st.hp[b]? with
 | none=>rw[ho] at hb;cases hb
 | some o =>
  rw[ho] at hb;refine FF_noRef hb (λob0 e=>h b ob0 ?_) hn hu
  rw[JM,ho,e];rfl
theorem zDR{tm:List AV}{dst:Option Tmp}{v:AV}{t:Nat}{x:AV}(h:(jh tm dst v)[t]? = some x):tm[t]? = some x\/(dst=some t/\x=v):=by
 cases dst with
 | none=>exact .inl h
 | some d =>
  simp only[jh] at h;by_cases e:t=d
  ·subst e;have hlt:t<tm.length:=by have:=(List.getElem?_eq_some_iff.1 h).1;simpa using this
   rw[List.getElem?_set_self hlt] at h;injection h with h
   exact .inr ⟨rfl,h.symm⟩
  ·rw[List.getElem?_set_ne (Ne.symm e)] at h;exact .inl h
theorem zG6{ef:Eff}{dst:Option Tmp}{site:Nat}{st:St}(h:onlyAt s st)(hv:dst=none\/dst=some s\/zf s ef.v=true)(hn:∀k,ef.new=some k->zh s k=true)(hu:∀b k,ef.upd=some (b,k)->zh s k=true):onlyAt s (zj ef dst site st):=by
 refine⟨λt v hne ht=>?_,zCE h.2 hn hu⟩
 rcases zDR (show(jh st.tm dst ef.v)[t]? = some v from ht) with ht | ⟨hd,rfl⟩
 ·exact h.1 t v hne ht
 ·rcases hv with e | e | e
  ·rw[e] at hd;cases hd
  ·rw[e] at hd;injection hd with hd;exact absurd hd.symm hne
  ·exact e
theorem pres_free{ef:Eff}{dst:Option Tmp}{site:Nat}{st:St}(h:freeRef s st)(hv:dst=none\/zf s ef.v=true)(hn:∀k,ef.new=some k->zh s k=true)(hu:∀b k,ef.upd=some (b,k)->zh s k=true)
  (ht:¬ef.touch site s):freeRef s (zj ef dst site st):=by
 refine⟨?_,λt v hx=>?_,zCE h.2.2 hn hu⟩
 ·have h0:=h.1;rw[Yk];rw[JM] at h0;cases ho:st.hp[s]? with
  | none=>rfl
  | some o=>rw[ho] at h0;simp only[Option.join_some] at h0;subst h0;exact zD9 ht _
 ·rcases zDR (show(jh st.tm dst ef.v)[t]? = some v from hx) with hx | ⟨hd,rfl⟩
  ·exact h.2.1 t v hx
  ·rcases hv with e | e
   ·rw[e] at hd;cases hd
   ·exact e
theorem freeRef.only{st:St}(h:freeRef s st):onlyAt s st:=⟨λt v _ ht=>h.2.1 t v ht,h.2.2⟩
mutual
theorem zAk(c:Nat):∀v:AV,zf s v=true->zf s (jd c v)=true
 | .own b o l z,h=>by simp only[jd];split <;> first | rfl | exact h
 | .ptr b z e p,h=>by simp only[jd];split <;> first | rfl | exact h
 | .omp b,h=>by simp only[jd];split <;> first | rfl | exact h
 | .it b,h=>by simp only[jd];split <;> first | rfl | exact h
 | .agg t fs,h=>by simp only[zf] at h;simp only[jd,zf];exact YH c fs h
 | .fn f x y,h=>by simp only[zf,Bool.and_eq_true] at h;simp only[jd,zf,Bool.and_eq_true];exact⟨YH c x h.1,YH c y h.2⟩
 | .d x,_=>rfl
 | .undef,_=>rfl
theorem YH(c:Nat):∀l:List AV,jM s l=true->jM s (qd c l)=true
 | [],_=>rfl
 | v :: r,h=>by simp only[jM,Bool.and_eq_true] at h;simp only[qd,jM,Bool.and_eq_true];exact⟨zAk c v h.1,YH c r h.2⟩
end
mutual
theorem Qw(c:Nat):∀v:AV,zf c (jd c v)=true
 | .own b o l z=>by simp only[jd];split <;> simp_all[zf]
 | .ptr b z e p=>by simp only[jd];split <;> simp_all[zf]
 | .omp b=>by simp only[jd];split <;> simp_all[zf]
 | .it b=>by simp only[jd];split <;> simp_all[zf]
 | .agg t fs=>by simp only[jd,zf];exact jx c fs
 | .fn f x y=>by simp only[jd,zf,Bool.and_eq_true];exact⟨jx c x,jx c y⟩
 | .d x=>rfl
 | .undef=>rfl
theorem jx(c:Nat):∀l:List AV,jM c (qd c l)=true
 | []=>rfl
 | v :: r=>by simp only[qd,jM,Bool.and_eq_true];exact⟨Qw c v,jx c r⟩
end
theorem zCO{c t:Nat}{st:St}{v:AV}(h:(clear c st).tm[t]? = some v):∃v0,st.tm[t]? = some v0/\v=jd c v0:=by
 simp only[clear,Yv,List.getElem?_map] at h;cases ht:st.tm[t]? with
 | none=>rw[ht] at h;cases h
 | some x=>rw[ht] at h;injection h with h;exact⟨x,rfl,h.symm⟩
theorem zDQ{c b:Nat}{st:St}{ob:OB}(h:slot (clear c st).hp b=some ob):b≠c/\∃ob0,slot st.hp b=some ob0/\(zh s ob0.blk=true->zh s ob.blk=true)/\zh c ob.blk=true:=by
 obtain⟨hne,ob0,h0,hk⟩:=Jg h;refine⟨hne,ob0,h0,?_⟩;unfold J3 at hk;split at hk
 ·rename_i hx;injection hx with hx;subst hx;injection hk with hk;subst hk
  exact⟨λh=>YH c _ h,jx c _⟩
 ·rename_i hne;injection hk with hk;subst hk
  obtain⟨z,blk⟩:=ob0;cases blk with
  | ac sz xs=>exact absurd rfl (hne z sz xs)
  | _=>exact⟨λh=>h,rfl⟩
theorem freeRef.clear{st:St}(h:freeRef s st)(c:Nat):freeRef s (clear c st):=by
 refine⟨?_,λt v ht=>?_,λb ob hb=>?_⟩
 ·cases hs:slot (Am.clear c st).hp s with
  | none=>rfl
  | some ob=>obtain⟨_,ob0,h0,_⟩:=Jg hs;rw[h.1] at h0;cases h0
 ·obtain⟨v0,h0,rfl⟩:=zCO ht;exact zAk c v0 (h.2.1 t v0 h0)
 ·obtain⟨_,ob0,h0,h1,_⟩:=zDQ (s:=s) hb;exact h1 (h.2.2 b ob0 h0)
theorem onlyAt.clear{st:St}(h:onlyAt s st)(c:Nat):onlyAt s (clear c st):=by
 refine⟨λt v hne ht=>?_,λb ob hb=>?_⟩
 ·obtain⟨v0,h0,rfl⟩:=zCO ht;exact zAk c v0 (h.1 t v0 hne h0)
 ·obtain⟨_,ob0,h0,h1,_⟩:=zDQ (s:=s) hb;exact h1 (h.2 b ob0 h0)
theorem zBX(c:Nat)(st:St):freeRef c (clear c st):=by
 refine⟨?_,λt v ht=>?_,λb ob hb=>?_⟩
 ·cases hs:slot (clear c st).hp c with
  | none=>rfl
  | some ob=>exact absurd rfl (Jg hs).1
 ·obtain⟨v0,_,rfl⟩:=zCO ht;exact Qw c v0
 ·exact(zDQ (s:=c) hb).2.choose_spec.2.2
theorem Y4:∀(bs:List Nat) (st:St) (b:Nat),(b∈bs\/freeRef b st)->freeRef b (clearL bs st)
 | [],st,b,h=>h.resolve_left (by simp)
 | c :: bs,st,b,h=>by
  simp only[clearL];refine Y4 bs _ b ?_;rcases h with h | h
  ·rcases List.mem_cons.1 h with rfl | h
   ·exact .inr (zBX b st)
   ·exact .inl h
  ·exact .inr (h.clear c)
theorem clear_free{st:St}(h:freeRef s st):clear s st=st:=by
 have h1:qd s st.tm=st.tm:=by
  refine QX s _ (Y7 λv hv=>?_)
  obtain⟨i,hi,rfl⟩:=List.mem_iff_getElem.1 hv;exact h.2.1 i _ (List.getElem?_eq_getElem hi)
 have h2:(st.hp.map (J3 s)).set s none=st.hp:=by
  apply List.ext_getElem?;intro b;by_cases e:b=s
  ·subst e;have h0:=h.1;rw[JM] at h0;cases hb:st.hp[b]? with
   | none=>rw[List.set_eq_of_length_le (by simpa using List.getElem?_eq_none_iff.1 hb)];simp[hb]
   | some o =>
    rw[hb] at h0;simp only[Option.join_some] at h0;subst h0;have hlt:b<st.hp.length:=(List.getElem?_eq_some_iff.1 hb).1;rw[List.getElem?_set_self (by simpa using hlt)]
  ·rw[List.getElem?_set_ne (Ne.symm e),List.getElem?_map];cases hb:st.hp[b]? with
   | none=>rfl
   | some o =>
    cases o with
    | none=>rfl
    | some ob =>
     obtain⟨z,blk⟩:=ob;have hs:slot st.hp b=some ⟨z,blk⟩:=by rw[JM,hb];rfl
     simp only[Option.map_some,zJj (h.2.2 b _ hs)]
 unfold clear;rw[h1,h2]
def Qu(E:Env)(call:FuncId->List DV->Option CR)(ops:List Oper)(o:Oper)(i:Nat)(st:St):Option St :=
 match pivot ops i with
 | true=>bnd (jc ops o st.tm) λg=>match g with
  | true=>YN E call o st
  | false=>some { st with tm:=jh st.tm o.dst (.d (.tup [])) }
 | false=>jz E call ops o st
def zCi(E:Env)(call:FuncId->List DV->Option CR)(ops:List Oper):List (Oper×Nat)->St->Option St
 | [],st=>some st
 | (o,i) :: r,st=>bnd (Qu E call ops o i st) (zCi E call ops r)
theorem zIo{o:Oper}{st:St}:(bnd (jc ops o st.tm) λg=>match g with
  | true=>zCQ E call (cls ops o.op).loud (qa ops o.op) o st
  | false=>some { st with tm:=jh st.tm o.dst (.d (.tup [])) })=jz E call ops o st:=by
 unfold jz zAc;cases hg:jc ops o st.tm with
 | none=>rfl
 | some g =>
  cases g with
  | false=>rfl
  | true =>
   simp only[zG];unfold zCQ;cases he:jY E call o.op (zW o) st.tm st.hp with
   | none=>rfl
   | some ef =>
    simp only[zG];unfold zCG;cases hc:(ef.ok && ((cls ops o.op).loud || (ef.upd.isNone && (ef.kil.isNone || ef.kil == qa ops o.op)))) with
    | false=>rfl
    | true =>
     simp only[zR];cases hn:ef.new with
     | none=>simp[hn]
     | some b =>
      simp only;cases h1:(o.dst.isSome && zh (zW o) b) with
      | false=>simp
      | true=>simp[hn]
theorem zAj{K:St->Option CR}{r:CR}:∀(L:List (Oper×Nat)) (st:St),YD E call ops (L.map λp=>(p.1,pivot ops p.2)) st K=some r->∃stf,zCi E call ops L st=some stf/\K stf=some r
 | [],st,h=>⟨st,rfl,h⟩
 | (o,i) :: L,st,h=>by
  simp only[List.map_cons,YD] at h;have hstep:∃st1,Qu E call ops o i st=some st1/\YD E call ops (L.map λp=>(p.1,pivot ops p.2)) st1 K=some r:=by
   unfold Qu;rw[<-zIo];obtain⟨g,hg,h⟩:=zA h;rw[hg];cases g with
   | true =>
    obtain⟨st1,h1,h⟩:=zA h;cases hp:pivot ops i with
    | true=>rw[hp] at h1;exact⟨st1,h1,h⟩
    | false=>rw[hp] at h1;exact⟨st1,h1,h⟩
   | false =>
    cases hp:pivot ops i with
    | true=>exact⟨_,rfl,h⟩
    | false=>exact⟨_,rfl,h⟩
  obtain⟨st1,h1,h2⟩:=hstep;obtain⟨stf,h3,h4⟩:=zAj L st1 h2;exact⟨stf,by simp only[zCi,h1,zG,h3],h4⟩
end
end Go.Am
namespace Go.Am
open Go.Proofs
open Go Go.RowKit
section
variable{P:Program}{E:Env}{call:FuncId->List DV->Option CR}{ops:List Oper}
theorem zDj(acc:List Nat):∀(es:List Edge) (s k:Nat),(es.foldl (λs e=>if Region.binds .any e then s ||| (2 ^ e.on) ||| acc.getD e.on 0 else s) s).testBit k=true ->
  s.testBit k=true\/∃e∈es,Region.binds .any e=true/\(e.on=k\/(acc.getD e.on 0).testBit k=true)
 | [],s,k,h=>.inl h
 | e :: es,s,k,h=>by
  simp only[List.foldl_cons] at h;rcases zDj acc es _ k h with h | ⟨e',he',h⟩
  ·split at h
   ·rename_i hb;simp only[Nat.testBit_or,Bool.or_eq_true] at h;rcases h with (h | h) | h
    ·exact .inl h
    ·rw[Nat.testBit_two_pow] at h;exact .inr ⟨e,by simp,hb,.inl (by simpa using h)⟩
    ·exact .inr ⟨e,by simp,hb,.inr h⟩
   ·exact .inl h
  ·exact .inr ⟨e',by simp[he'],h⟩
theorem zFD:∀(r:List Oper) (acc:List Nat),(∃l,qL r acc=acc++l/\l.length=r.length) /\
  ∀j o,r[j]? = some o->∃m,(qL r acc)[acc.length+j]? = some m/\m=zCF ((qL r acc).take (acc.length+j)) o.after.toList
 | [],acc=>⟨⟨[],by simp[qL],rfl⟩,λj o h=>by simp at h⟩
 | o :: r,acc=>by
  obtain⟨⟨l,hl,hll⟩,hr⟩:=zFD r (acc++[zCF acc o.after.toList]);refine⟨⟨zCF acc o.after.toList :: l,by simp[qL,hl],by simp[hll]⟩,λj o' h=>?_⟩
  simp only[qL];cases j with
  | zero =>
   simp only[List.getElem?_cons_zero,Option.some.injEq] at h;subst h;refine⟨zCF acc o.after.toList,?_,?_⟩
   ·rw[hl];simp
   ·rw[hl];simp
  | succ j =>
   obtain⟨m,h1,h2⟩:=hr j o' (by simpa using h)
   have e:(acc++[zCF acc o.after.toList]).length+j=acc.length+(j+1):=by simp;omega
   rw[e] at h1 h2;exact⟨m,h1,h2⟩
theorem getD_take{l:List Nat}{n i:Nat}(h:i<n):(l.take n).getD i 0=l.getD i 0:=by simp[List.getD,List.getElem?_take,h]
theorem anc_done(hb:Yi ops=true)(done:Nat->Prop)(hcl:∀(j:Nat) o,ops[j]? = some o->done j->∀e∈o.after.toList,Region.binds .any e=true->done e.on) :
  ∀(j:Nat) (o:Oper),ops[j]? = some o->(∀e∈o.after.toList,Region.binds .any e=true->done e.on)->∀k,((qL ops []).getD j 0).testBit k=true->done k:=by
 have back:∀(j:Nat) (o:Oper),ops[j]? = some o->∀e∈o.after.toList,Region.binds .any e=true->e.on<j:=by
  intro j o ho e he hbd;unfold Yi at hb;have hj:j<ops.length:=(List.getElem?_eq_some_iff.1 ho).1;have hm:(o,j)∈ops.zipIdx:=by rw[List.mem_iff_getElem?];exact⟨j,by simp[List.getElem?_zipIdx,ho]⟩
  have h1:=List.all_eq_true.1 hb (o,j) hm;have h2:=List.all_eq_true.1 h1 e he;simpa[hbd] using h2
 intro j;induction j using Nat.strongRecOn with
 | _ j ih =>
  intro o ho he k hk;obtain⟨m,h1,h2⟩:=(zFD ops []).2 j o ho;simp only[List.length_nil,Nat.zero_add] at h1 h2;have hm:(qL ops []).getD j 0=m:=by simp[List.getD,h1]
  rw[hm,h2] at hk;unfold zCF at hk;rcases zDj _ _ 0 k hk with h | ⟨e,hee,hbd,h⟩
  ·simp at h
  ·have hlt:=back j o ho e hee hbd;have hd:=he e hee hbd;rcases h with rfl | h
   ·exact hd
   ·rw[getD_take hlt] at h;have hj:j<ops.length:=(List.getElem?_eq_some_iff.1 ho).1;have hoe:ops[e.on]? = some ops[e.on]:=List.getElem?_eq_getElem (by omega)
    exact ih e.on hlt _ hoe (hcl _ _ hoe hd) k h
def Inv(ops:List Oper)(L:List (Oper×Nat))(st:St):Prop :=
 ∀s∈anews ops,(∀p∈L,p.1.dst=some s->freeRef s st)/\∀p∈L,qa ops p.1.op=some s->onlyAt s st
structure Stat(ops:List Oper):Prop where
 plain:∀o∈ops,(owns o.op=true->o.dst.isSome=true)/\∀d,o.dst=some d->d ∉ looks ops o
 back:Yi ops=true
 ord:∀(i j:Nat) a b,i<j->ops[i]? = some a->ops[j]? = some b->∀d,a.dst=some d->b.dst≠some d
def Ord(ops:List Oper)(tm:List AV):Prop :=
 ∀(i j:Nat) a b,i<j->ops[i]? = some a->ops[j]? = some b->(clash ops a b=false\/((qL ops []).getD j 0).testBit i=true)\/∃p q,zD6 ops i j a b=some (p,q)/\zHE tm p q=true
theorem zJZ(h1:zCW ops=true):∀o∈ops,(owns o.op=true->o.dst.isSome=true)/\∀d,o.dst=some d->d ∉ looks ops o:=λo ho=>by
 unfold zCW at h1;have:=List.all_eq_true.1 h1 o ho;simp only[Bool.and_eq_true,Bool.or_eq_true,Bool.not_eq_true'] at this;refine⟨λhx=>this.1.resolve_left (by simp[hx]),λd hd=>?_⟩
 have h4:=this.2;rw[hd] at h4;simpa using h4
theorem dst_ne{a b:Oper}(h:(!(a.dst.isSome && a.dst == b.dst))=true):∀d,a.dst=some d->b.dst≠some d:=λd hd hd2=>by rw[hd,hd2] at h;simp at h
theorem stat_of(h:zAK ops=true):Stat ops:=by
 unfold zAK at h;simp only[Bool.and_eq_true] at h;obtain⟨⟨h1,h2⟩,h3⟩:=h;refine⟨zJZ h1,h2,λi j a b hij ha hb=>?_⟩
 have hj:j<ops.length:=(List.getElem?_eq_some_iff.1 hb).1;have h4:=List.all_eq_true.1 h3 j (List.mem_range.2 hj);have h5:=List.all_eq_true.1 h4 i (List.mem_range.2 hij);rw[ha,hb] at h5;simp only[Bool.and_eq_true] at h5;exact dst_ne h5.1
theorem ord_of(h:zAK ops=true)(tm:List AV):Ord ops tm:=by unfold zAK at h;simp only[Bool.and_eq_true] at h;obtain⟨_,h3⟩:=h;intro i j a b hij ha hb;have hj:j<ops.length:=(List.getElem?_eq_some_iff.1 hb).1;have h4:=List.all_eq_true.1 h3 j (List.mem_range.2 hj);have h5:=List.all_eq_true.1 h4 i (List.mem_range.2 hij);rw[ha,hb] at h5;simp only[Bool.and_eq_true,Bool.or_eq_true,Bool.not_eq_true'] at h5;exact .inl h5.2
theorem stat_of2(h:zEk ops=true):Stat ops:=by
 unfold zEk at h;simp only[Bool.and_eq_true] at h;obtain⟨⟨h1,h2⟩,h3⟩:=h;refine⟨zJZ h1,h2,λi j a b hij ha hb=>?_⟩
 have hj:j<ops.length:=(List.getElem?_eq_some_iff.1 hb).1;have h4:=List.all_eq_true.1 h3 j (List.mem_range.2 hj);have h5:=List.all_eq_true.1 h4 i (List.mem_range.2 hij);rw[ha,hb] at h5;exact dst_ne h5
theorem ord_of2{tm:List AV}(h:lsOK ops tm=true):Ord ops tm:=by
 intro i j a b hij ha hb;unfold lsOK at h;have hj:j<ops.length:=(List.getElem?_eq_some_iff.1 hb).1;have h4:=List.all_eq_true.1 h j (List.mem_range.2 hj);have h5:=List.all_eq_true.1 h4 i (List.mem_range.2 hij);rw[ha,hb] at h5;simp only[Bool.or_eq_true,Bool.not_eq_true'] at h5;rcases h5 with h5 | h5
 ·exact .inl h5
 ·right;cases hl:zD6 ops i j a b with
  | none=>rw[hl] at h5;cases h5
  | some pq=>rw[hl] at h5;exact⟨pq.1,pq.2,rfl,h5⟩
theorem anews_spec{s:Nat}(h:s∈anews ops):∃(i:Nat) (o:Oper),ops[i]? = some o/\pivot ops i=false/\owns o.op=true/\o.dst=some s:=by
 unfold anews at h;obtain⟨⟨o,i⟩,hm,h⟩:=List.mem_filterMap.1 h;simp only at h;obtain⟨k,hk⟩:=List.mem_iff_getElem?.1 hm;have hoi:ops[i]? = some o:=by simp only[List.getElem?_zipIdx,Option.map_eq_some_iff] at hk;obtain⟨x,hx,e⟩:=hk;simp only[Prod.mk.injEq] at e;obtain⟨rfl,rfl⟩:=e;simpa using hx
 split at h
 ·cases h
 ·rename_i hp;split at h
  ·exact⟨i,o,hoi,by simpa using hp,by assumption,h⟩
  ·cases h
theorem zHB{i:Nat}{o:Oper}(ho:ops[i]? = some o)(hp:pivot ops i=false)(hw:owns o.op=true){d:Tmp}(hd:o.dst=some d):d∈anews ops:=by
 unfold anews;refine List.mem_filterMap.2 ⟨(o,i),?_,by simp[hp,hw,hd]⟩
 rw[List.mem_iff_getElem?];exact⟨i,by simp[List.getElem?_zipIdx,ho]⟩
theorem Stat.uniq(hs:Stat ops){i j:Nat}{a b:Oper}(ha:ops[i]? = some a)(hb:ops[j]? = some b){d:Tmp}(da:a.dst=some d)(db:b.dst=some d):i=j:=by
 rcases Nat.lt_trichotomy i j with h | h | h
 ·exact absurd db (hs.ord i j a b h ha hb d da)
 ·exact h
 ·exact absurd da (hs.ord j i b a h hb ha d db)
theorem Inv.know(hs:Stat ops){L:List (Oper×Nat)}{st:St}(hI:Inv ops L st){o:Oper}{i:Nat}(hm:(o,i)∈L)(ho:ops[i]? = some o)(hp:pivot ops i=false):Know ops o st:=by
 refine⟨λhw=>?_,λt ht=>?_⟩
 ·obtain⟨d,hd⟩:=Option.isSome_iff_exists.1 ((hs.plain o (List.mem_of_getElem? ho)).1 hw);have:zW o=d:=by unfold zW;rw[hd];rfl
  rw[this];exact(hI d (zHB ho hp hw hd)).1 (o,i) hm hd
 ·have hpr:=(zBg ht).2.2;unfold priv at hpr;simp only[Bool.and_eq_true] at hpr;exact(hI t (by simpa using hpr.1)).2 (o,i) hm ht
theorem zJI(hs:Stat ops){o:Oper}{i:Nat}(ho:ops[i]? = some o){st st1:St}(h:Qu E call ops o i st=some st1) :
  ∃(ef:Eff) (st0:St),(st0=st\/st0=clear (zW o) st)/\st1=zj ef o.dst (zW o) st0/\(∀b,ef.new=some b->o.dst.isSome=true/\zh (zW o) b=true)/\(∀b k,ef.upd=some (b,k)->owns o.op=false) /\
   (pivot ops i=false->st0=st) /\
   ∀s,o.dst≠some s->(∀(t:Nat) (v:AV),t∈looks ops o->st.tm[t]? = some v->zf s v=true)->(∀b ob,slot st.hp b=some ob->zh s ob.blk=true) ->
    (o.dst=none\/zf s ef.v=true)/\(∀k,ef.new=some k->zh s k=true)/\(∀b k,ef.upd=some (b,k)->zh s k=true)/\¬ef.touch (zW o) s:=by
 have hown:=(hs.plain o (List.mem_of_getElem? ho)).1;have wr:∀{ef:Eff},jY E call o.op (zW o) st.tm st.hp=some ef->∀b k,ef.upd=some (b,k)->owns o.op=false:=by
  intro ef he b k hu;cases hw:owns o.op with
  | false=>rfl
  | true =>
   have hn:jw o.op=false:=by
    cases hop:o.op <;> rw[hop] at hw <;> simp only[owns] at hw <;> try (simp at hw;done)
    all_goals try rfl
    rename_i c;simp only[jw];split
    ·rename_i hc;rw[hc] at hw;simp at hw
    ·rfl
   rw[(Qd he).upd hn] at hu;cases hu
 have key:∀{ef:Eff},zAc E call ops o st=some ef->∀s,o.dst≠some s->(∀(t:Nat) (v:AV),t∈looks ops o->st.tm[t]? = some v->zf s v=true)->(∀b ob,slot st.hp b=some ob->zh s ob.blk=true) ->
    (o.dst=none\/zf s ef.v=true)/\(∀k,ef.new=some k->zh s k=true)/\(∀b k,ef.upd=some (b,k)->zh s k=true)/\¬ef.touch (zW o) s:=by
  intro ef hg s hd hl hh;refine⟨?_,?_,?_,J0 hg hd hown hl hh⟩
  ·rcases untouched hg hd hown hl hh with h | h
   ·exact .inr h.v
   ·exact .inl h.1
  ·rcases untouched hg hd hown hl hh with h | h
   ·exact h.new
   ·intro k hk;rw[h.2.1] at hk;cases hk
  ·rcases untouched hg hd hown hl hh with h | h
   ·exact λb k hu=>(h.upd b k hu).2
   ·exact λb k hu=>(h.2.2.1 b k hu).2
 have keyE:∀{ef:Eff},jY E call o.op (zW o) st.tm st.hp=some ef->(∀b,ef.new=some b->o.dst.isSome=true/\zh (zW o) b=true)->∀s,o.dst≠some s->(∀(t:Nat) (v:AV),t∈looks ops o->st.tm[t]? = some v->zf s v=true)->(∀b ob,slot st.hp b=some ob->zh s ob.blk=true) ->
    (o.dst=none\/zf s ef.v=true)/\(∀k,ef.new=some k->zh s k=true)/\(∀b k,ef.upd=some (b,k)->zh s k=true)/\¬ef.touch (zW o) s:=by
  intro ef he hnw s hd hl hh;cases hdst:o.dst with
  | some d =>
   have hne:s≠zW o:=by unfold zW;rw[hdst];simp;rintro rfl;exact hd hdst
   have ho:=zE4 he hne (qA hl) hh;refine⟨.inr ho.v,ho.new,λb k hu=>(ho.upd b k hu).2,?_⟩
   rintro (a | ⟨k,a⟩ | a | ⟨a,b⟩)
   ·exact ho.frz a
   ·exact(ho.upd s k a).1 rfl
   ·exact ho.kil a
   ·exact hne b
  | none =>
   have hno:owns o.op=false:=by
    cases hx:owns o.op with
    | false=>rfl
    | true=>have:=hown hx;rw[hdst] at this;simp at this
   have hnew:ef.new=none:=by
    cases hn:ef.new with
    | none=>rfl
    | some b=>have:=(hnw b hn).1;rw[hdst] at this;simp at this
   rw[zJv hno _ (s+1)] at he;have ho:=zE4 he (by omega) (qA hl) hh
   refine⟨.inl rfl,λk hk=>by (rw[hnew] at hk;cases hk),λb k hu=>(ho.upd b k hu).2,?_⟩
   rintro (a | ⟨k,a⟩ | a | ⟨a,b⟩)
   ·exact ho.frz a
   ·exact(ho.upd s k a).1 rfl
   ·exact ho.kil a
   ·rw[hnew] at a;simp at a
 unfold Qu at h;cases hp:pivot ops i with
 | false =>
  rw[hp] at h;simp only at h;unfold jz at h;obtain⟨ef,hg,h⟩:=zA h;obtain⟨_,h⟩:=zE h;injection h with h
  refine⟨ef,st,.inl rfl,h.symm,(Yh hg).2.2.2,λb k hu=>?_,λ_=>rfl,key hg⟩
  rcases J7 hg with ⟨_,rfl⟩ | ⟨_,he,_⟩
  ·simp at hu
  ·exact wr he b k hu
 | true =>
  rw[hp] at h;simp only at h;obtain⟨g,hg,h⟩:=zA h;cases g with
  | false =>
   injection h with h;refine⟨{ v:=.d (.tup []) },st,.inl rfl,h.symm,by simp,by simp,λ_=>rfl,λs hd hl hh=>⟨.inr rfl,by simp,by simp,?_⟩⟩
   rintro (a | ⟨k,a⟩ | a | ⟨a,b⟩) <;> simp at a
  | true =>
   simp only at h;unfold YN at h;obtain⟨ef,he,h⟩:=zA h;obtain⟨_,h⟩:=zE h;cases hn:ef.new with
   | none =>
    rw[hn] at h;injection h with h
    exact⟨ef,st,.inl rfl,h.symm,(λb hb=>by rw[hn] at hb;cases hb),wr he,λ_=>rfl,keyE he (λb hb=>by rw[hn] at hb;cases hb)⟩
   | some b =>
    rw[hn] at h;obtain⟨hgd,h⟩:=zE h;injection h with h
    simp only[Bool.and_eq_true] at hgd;have hnw:∀b',ef.new=some b'->o.dst.isSome=true/\zh (zW o) b'=true:=λb' hb=>by
     rw[hn] at hb;injection hb with hb;subst hb;exact hgd
    exact⟨ef,_,.inr rfl,h.symm,hnw,wr he,(λhh=>by cases hh),keyE he hnw⟩
theorem Inv.step(hs:Stat ops){L L':List (Oper×Nat)}{st st1:St}(hI:Inv ops L st)(hLo:∀p∈L,ops[p.2]? = some p.1)(hsub:∀p∈L',p∈L){o:Oper}{i:Nat}(hm:(o,i)∈L)(hni:∀o',(o',i) ∉ L')
  (h:Qu E call ops o i st=some st1):Inv ops L' st1:=by
 have ho:ops[i]? = some o:=hLo _ hm;obtain⟨ef,st0,h0,rfl,hnw,hup,hpv,hoff⟩:=zJI hs ho h;intro s hsa;obtain⟨hf,hon⟩:=hI s hsa;obtain⟨k,ok,hok,hkp,hkw,hkd⟩:=anews_spec hsa;refine⟨λp hp hd=>?_,λp hp hmay=>?_⟩
 ·have hfree:=hf p (hsub p hp) hd;have hne:o.dst≠some s:=λe=>hni p.1 (by
   have:=hs.uniq ho (hLo _ (hsub p hp)) e hd;rw[this];exact hp)
  obtain⟨o1,o2,o3,o4⟩:=hoff s hne (λt v _ hv=>hfree.2.1 t v hv) hfree.2.2
  have hfree0:freeRef s st0:=by
   rcases h0 with rfl | rfl
   ·exact hfree
   ·exact hfree.clear _
  exact pres_free hfree0 o1 o2 o3 o4
 ·have honly:=hon p (hsub p hp) hmay;by_cases he:o.dst=some s
  ·
   have hik:i=k:=hs.uniq ho hok he hkd;subst hik;have hok':o=ok:=Option.some.inj (ho.symm.trans hok);subst hok';have hst:=hpv hkp;subst hst;have hfree:=hf (o,i) hm he;have hsite:zW o=s:=by unfold zW;rw[he];rfl
   refine zG6 hfree.only (.inr (.inl he)) (λb hb=>by rw[<-hsite];exact(hnw b hb).2) λb k hu=>?_
   have:=hup b k hu;rw[hkw] at this;cases this
  ·have honly0:onlyAt s st0:=by
    rcases h0 with rfl | rfl
    ·exact honly
    ·exact honly.clear _
   obtain⟨hc1,hb1,hpr⟩:=zBg hmay;have hpo:=hLo _ (hsub p hp);have hpd:p.1.dst.isSome=true:=(hs.plain p.1 (List.mem_of_getElem? hpo)).1 (by
    unfold zIe at hb1;split at hb1
    ·rename_i c hop;split at hb1
     ·rename_i hcc _;rw[hop];simp[owns,hcc]
     ·cases hb1
    ·cases hb1)
   obtain⟨d,hdd⟩:=Option.isSome_iff_exists.1 hpd;have hnel:s ∉ looks ops o:=by
    refine zJX hpr (List.mem_of_getElem? hpo) (List.mem_of_getElem? ho) ?_ (zDu hb1);intro e;refine hni p.1 ?_;have:=hs.uniq ho hpo (by rw[<-e];exact hdd) hdd
    rw[this];exact hp
   obtain⟨o1,o2,o3,_⟩:=hoff s he (λt v ht hv=>honly.1 t v (by rintro rfl;exact hnel ht) hv) honly.2
   exact zG6 honly0 (o1.imp id .inr) o2 o3
end
end Go.Am
namespace Go.Am
open Go.Proofs
open Go Go.RowKit
section
variable{P:Program}{E:Env}{call:FuncId->List DV->Option CR}
theorem zEq{t:TypeId}{hp:List (Option OB)}{a:AV}{ef:Eff}(h:JJ E t hp a=some ef):ef={ v:=ef.v }:=by
 unfold JJ at h;obtain⟨td,_,h⟩:=zA h;split at h
 ·obtain⟨_,h⟩:=zE h;injection h with h
  rw[<-h]
 ·obtain⟨ob,_,h⟩:=zA h;obtain⟨v,_,h⟩:=zA h;obtain⟨x,_,h⟩:=zA h;obtain⟨_,h⟩:=zE h;injection h with h
  rw[<-h]
 ·cases h
theorem zEp{t:TypeId}{hp hp':List (Option OB)}{a:AV}(h:∀b sz e p,a=.ptr b sz e p->slot hp b=slot hp' b):JJ E t hp a=JJ E t hp' a:=by
 cases a with
 | ptr b sz e p=>unfold JJ;simp only[h b sz e p rfl]
 | d x=>unfold JJ;cases x <;> rfl
 | _=>rfl
theorem Qs{t:TypeId}{hp:List (Option OB)}{a x:AV}{ef:Eff}(h:J8 E t hp a x=some ef):∃b sz e p blk,a=.ptr b sz e p/\ef={ v:=.d (.tup []),upd:=some (b,blk) }:=by
 unfold J8 at h;obtain⟨td,_,h⟩:=zA h;split at h
 ·obtain⟨ob,_,h⟩:=zA h;obtain⟨_,h⟩:=zE h;obtain⟨_,h⟩:=zE h;obtain⟨v,_,h⟩:=zA h;obtain⟨y,_,h⟩:=zA h;obtain⟨_,h⟩:=zE h;obtain⟨blk,_,h⟩:=zA h;injection h with h
  exact⟨_,_,_,_,blk,rfl,h.symm⟩
 ·cases h
theorem Qt{ops:List Oper}{o:Oper}{t:TypeId}{p:Tmp}(hg:o.guard=none)(ho:o.op=.load t (.tmp p))(st st':St) :
  jz E call ops o st=some st' ↔ ∃a ef,evO E st.tm (.tmp p)=some a/\JJ E t st.hp a=some ef/\st'=⟨jh st.tm o.dst ef.v,st.hp⟩:=by
 unfold jz zAc jc;rw[hg,ho];simp only[zG,jY];constructor
 ·intro h;obtain⟨ef,h1,h⟩:=zA h;obtain⟨ef0,h2,h3⟩:=zA h1;obtain⟨a,h4,h5⟩:=zA h2;have e:=zEq h5;obtain⟨h6,_⟩:=Jb h3;subst h6;obtain⟨_,h⟩:=zE h;injection h with h
  refine⟨a,ef,h4,h5,?_⟩;rw[<-h,e];rfl
 ·rintro⟨a,ef,h1,h2,rfl⟩;have e:=zEq h2;rw[h1,zG,h2,zG,e];simp[zCG,Eff.ok,zm,zj,freezeL,zCh,zDl,bnd]
theorem qY{ops:List Oper}{o:Oper}{t:TypeId}{q:Tmp}{x:Operand}(hg:o.guard=none)(ho:o.op=.store t (.tmp q) x)(hd:o.dst=none)(st st':St) :
  jz E call ops o st=some st' ↔ ∃a v ef,evO E st.tm (.tmp q)=some a/\evO E st.tm x=some v/\J8 E t st.hp a v=some ef/\st'=⟨st.tm,zCh st.hp ef.upd⟩:=by
 unfold jz zAc jc;rw[hg,ho];simp only[zG,jY];constructor
 ·intro h;obtain⟨ef,h1,h⟩:=zA h;obtain⟨ef0,h2,h3⟩:=zA h1;obtain⟨a,h4,h5⟩:=zA h2;obtain⟨v,h6,h7⟩:=zA h5;obtain⟨b,sz,e,p,blk,_,he⟩:=Qs h7;obtain⟨h8,_⟩:=Jb h3;subst h8;obtain⟨_,h⟩:=zE h;injection h with h
  refine⟨a,v,ef,h4,h6,h7,?_⟩;rw[<-h,he,hd];rfl
 ·rintro⟨a,v,ef,h1,h2,h3,rfl⟩;obtain⟨b,sz,e,p,blk,_,he⟩:=Qs h3;rw[h1,zG,h2,zG,h3,zG,he,hd];simp[zCG,Eff.ok,zm,zj,bnd,cls,Cls.loud,jh,freezeL,zDl]
theorem zGy{hp:List (Option OB)}{b c:Nat}{blk:Blk}(h:c≠b):slot (zCh hp (some (b,blk))) c=slot hp c:=by
 simp only[zCh];split
 ·exact Ja h
 ·rfl
structure LdSt(ops:List Oper)(a b:Oper)(p q:Tmp)(st:St):Prop where
 ga:a.guard=none
 gb:b.guard=none
 la:∃t,a.op=.load t (.tmp p)
 sb:∃t x,b.op=.store t (.tmp q) x
 db:b.dst=none
 nh:∀d,a.dst=some d->d ∉ looks ops b
 ap:zHE st.tm p q=true
theorem LdSt.apart{ops:List Oper}{a b:Oper}{p q:Tmp}{st:St}(h:LdSt ops a b p q st){x y:AV}(hx:evO E st.tm (.tmp p)=some x)(hy:evO E st.tm (.tmp q)=some y):∀b1 sz e pp c sz' e' pp',x=.ptr b1 sz e pp->y=.ptr c sz' e' pp'->b1≠c:=by intro b1 sz e pp c sz' e' pp' e1 e2 hbc;subst e1 e2 hbc;have h1:st.tm[p]? = some (.ptr b1 sz e pp):=hx;have h2:st.tm[q]? = some (.ptr b1 sz' e' pp'):=hy;have:=h.ap;unfold zHE at this;rw[h1,h2] at this;simp at this
theorem LdSt.swap{ops:List Oper}{a b:Oper}{p q:Tmp}{st st1 st2:St}(h:LdSt ops a b p q st)(h1:jz E call ops a st=some st1)(h2:jz E call ops b st1=some st2) :
  ∃st1',jz E call ops b st=some st1'/\jz E call ops a st1'=some st2:=by
 obtain⟨t,ho⟩:=h.la;obtain⟨t',x,hb⟩:=h.sb;obtain⟨z,ef,k1,k2,rfl⟩:=(Qt h.ga ho _ _).1 h1;obtain⟨z',v,ef',m1,m2,m3,rfl⟩:=(qY h.gb hb h.db _ _).1 h2;have o1:Operand.tmp q∈b.op.operands:=by rw[hb];simp[Op.operands]
 have o2:x∈b.op.operands:=by rw[hb];simp[Op.operands]
 have m1':evO E st.tm (.tmp q)=some z':=(zCr (E:=E) h.nh _ o1).trans m1;have m2':evO E st.tm x=some v:=(zCr (E:=E) h.nh _ o2).trans m2;obtain⟨bb,sz,e,pp,blk,rfl,he⟩:=Qs m3;refine⟨_,(qY h.gb hb h.db _ _).2 ⟨_,v,ef',m1',m2',m3,rfl⟩,?_⟩;refine(Qt h.ga ho _ _).2 ⟨z,ef,k1,?_,rfl⟩;rw[<-k2];refine(zEp λb1 sz1 e1 p1 hz=>?_).symm
 show slot st.hp b1=slot (zCh st.hp ef'.upd) b1;rw[he];exact(zGy (h.apart k1 m1' _ _ _ _ _ _ _ _ hz rfl)).symm
theorem LdSt.swap'{ops:List Oper}{a b:Oper}{p q:Tmp}{st st1 st2:St}(h:LdSt ops a b p q st)(h1:jz E call ops b st=some st1)(h2:jz E call ops a st1=some st2) :
  ∃st1',jz E call ops a st=some st1'/\jz E call ops b st1'=some st2:=by
 obtain⟨t,ho⟩:=h.la;obtain⟨t',x,hb⟩:=h.sb;obtain⟨z',v,ef',m1,m2,m3,rfl⟩:=(qY h.gb hb h.db _ _).1 h1;obtain⟨z,ef,k1,k2,rfl⟩:=(Qt h.ga ho _ _).1 h2;have o1:Operand.tmp q∈b.op.operands:=by rw[hb];simp[Op.operands]
 have o2:x∈b.op.operands:=by rw[hb];simp[Op.operands]
 obtain⟨bb,sz,e,pp,blk,rfl,he⟩:=Qs m3;have k1':evO E st.tm (.tmp p)=some z:=k1;have k2':JJ E t st.hp z=some ef:=by
  rw[<-k2];refine zEp λb1 sz1 e1 p1 hz=>?_
  show slot st.hp b1=slot (zCh st.hp ef'.upd) b1;rw[he];exact(zGy (h.apart k1' m1 _ _ _ _ _ _ _ _ hz rfl)).symm
 refine⟨_,(Qt h.ga ho _ _).2 ⟨z,ef,k1',k2',rfl⟩,?_⟩;refine(qY h.gb hb h.db _ _).2 ⟨_,v,ef',(zCr (E:=E) h.nh _ o1).symm.trans m1,(zCr (E:=E) h.nh _ o2).symm.trans m2,m3,rfl⟩
def solid:AV->Bool
 | .ptr _ _ _ _=>true
 | .d _=>true
 | _=>false
theorem zI1{c:Nat}{v0 v:AV}(h:v=jd c v0)(hs:solid v=true):v0=v:=by subst h;cases v0 <;> simp only[jd] at hs ⊢ <;> (try (split at hs <;> simp_all[solid])) <;> simp_all[solid]
theorem put_other{tm:List AV}{dst:Option Tmp}{v:AV}{t:Tmp}(h:dst≠some t):(jh tm dst v)[t]? = tm[t]?:=by
 cases dst with
 | none=>rfl
 | some d =>
  simp only[jh];exact List.getElem?_set_ne (λe=>h (by rw[e]))
theorem stepD_tm{ops:List Oper}(hs:Stat ops){o:Oper}{i:Nat}(ho:ops[i]? = some o){st st1:St}(h:Qu E call ops o i st=some st1){t:Tmp}(hd:o.dst≠some t){v:AV}(hv:st1.tm[t]? = some v)(hsol:solid v=true):st.tm[t]? = some v:=by
 obtain⟨ef,st0,h0,rfl,_⟩:=zJI hs ho h;have h1:st0.tm[t]? = some v:=(put_other hd).symm.trans hv;rcases h0 with rfl | rfl
 ·exact h1
 ·obtain⟨v0,h2,h3⟩:=zCO h1;rw[h2,zI1 h3 hsol]
theorem seqD_tm{ops:List Oper}(hs:Stat ops){t:Tmp}{v:AV}(hsol:solid v=true):∀(L:List (Oper×Nat)) {st stf:St},(∀p∈L,ops[p.2]? = some p.1)->(∀p∈L,p.1.dst≠some t)->zCi E call ops L st=some stf->stf.tm[t]? = some v->st.tm[t]? = some v
 | [],st,stf,_,_,h,hv=>by
  injection h with h;subst h
  exact hv
 | (o,i) :: L,st,stf,hLo,hd,h,hv=>by
  simp only[zCi] at h;obtain⟨st1,h1,h⟩:=zA h;have ih:=seqD_tm hs hsol L (λp hp=>hLo p (List.mem_cons_of_mem _ hp)) (λp hp=>hd p (List.mem_cons_of_mem _ hp)) h hv
  exact stepD_tm hs (hLo (o,i) List.mem_cons_self) h1 (hd (o,i) List.mem_cons_self) ih hsol
theorem lsAp_solid{tm:List AV}{p q:Tmp}(h:zHE tm p q=true):(∃v,tm[p]? = some v/\solid v=true)/\∃v,tm[q]? = some v/\solid v=true:=by
 unfold zHE at h;split at h
 ·rename_i h1 h2;exact⟨⟨_,h1,rfl⟩,_,h2,rfl⟩
 ·rename_i h1 h2;exact⟨⟨_,h1,rfl⟩,_,h2,rfl⟩
 ·cases h
theorem zDA{tm tm':List AV}{p q:Tmp}(h:zHE tm' p q=true)(hp:∀v,solid v=true->tm'[p]? = some v->tm[p]? = some v)(hq:∀v,solid v=true->tm'[q]? = some v->tm[q]? = some v):zHE tm p q=true:=by obtain⟨⟨v,h1,s1⟩,u,h2,s2⟩:=lsAp_solid h;have:=h;unfold zHE at this ⊢;rw[h1,h2] at this;rw[hp v s1 h1,hq u s2 h2];exact this
theorem zE5{ops:List Oper}{k:Nat}{t:Tmp}(h:early ops k t=true){i:Nat}{o:Oper}(ho:ops[i]? = some o)(hi:k<=i):o.dst≠some t:=by
 intro e;unfold early at h;have hm:o∈ops.drop k:=by rw[List.mem_iff_getElem?];exact⟨i - k,by rw[List.getElem?_drop,show k+(i - k)=i by omega];exact ho⟩
 have:=List.all_eq_true.1 h o hm;rw[e] at this;simp at this
inductive LsP(ops:List Oper)(y x:Oper×Nat)(tmf:List AV):Prop where
 | ls (p q:Tmp) (gy:y.1.guard=none) (gx:x.1.guard=none) (hl:∃t,y.1.op=.load t (.tmp p)) (hs:∃t v,x.1.op=.store t (.tmp q) v) (hd:x.1.dst=none)
   (ep:early ops y.2 p=true) (eq:early ops x.2 q=true) (nh:hits ops y.1 x.1=false) (ap:zHE tmf p q=true)
 | sl (p q:Tmp) (gy:y.1.guard=none) (gx:x.1.guard=none) (hl:∃t,x.1.op=.load t (.tmp p)) (hs:∃t v,y.1.op=.store t (.tmp q) v) (hd:y.1.dst=none)
   (ep:early ops x.2 p=true) (eq:early ops y.2 q=true) (nh:hits ops x.1 y.1=false) (ap:zHE tmf p q=true)
theorem lsP_of{ops:List Oper}{i j:Nat}{a b:Oper}{p q:Tmp}{tmf:List AV}(h:zD6 ops i j a b=some (p,q))(ap:zHE tmf p q=true):LsP ops (a,i) (b,j) tmf:=by
 unfold zD6 at h;split at h
 ·rename_i t p' t' q' v ga gb ha hb;split at h
  ·rename_i hc;injection h with h
   simp only[Prod.mk.injEq] at h;obtain⟨rfl,rfl⟩:=h;simp only[Bool.and_eq_true,Bool.not_eq_true',Option.isNone_iff_eq_none] at hc;obtain⟨⟨⟨c1,c2⟩,c3⟩,c4⟩:=hc;exact .ls _ _ ga gb ⟨_,ha⟩ ⟨_,_,hb⟩ c1 c2 c3 c4 ap
  ·cases h
 ·rename_i t q' v t' p' ga gb ha hb;split at h
  ·rename_i hc;injection h with h
   simp only[Prod.mk.injEq] at h;obtain⟨rfl,rfl⟩:=h;simp only[Bool.and_eq_true,Bool.not_eq_true',Option.isNone_iff_eq_none] at hc;obtain⟨⟨⟨c1,c2⟩,c3⟩,c4⟩:=hc;exact .sl _ _ ga gb ⟨_,hb⟩ ⟨_,_,ha⟩ c1 c2 c3 c4 ap
  ·cases h
 ·cases h
theorem zGB{ops:List Oper}{a b:Oper}(h:hits ops a b=false):∀d,a.dst=some d->d ∉ looks ops b:=by intro d hd;unfold hits at h;rw[hd] at h;simpa using h
structure Indep(ops:List Oper)(y x:Oper×Nat)(tmf:List AV):Prop where
 py:pivot ops y.2=false
 px:pivot ops x.2=false
 pair:Pair ops y.1 x.1\/LsP ops y x tmf
theorem Indep.off{ops:List Oper}{y x:Oper×Nat}{tmf:List AV}(h:Indep ops y x tmf):∀d,y.1.dst=some d->d ∉ looks ops x.1:=by
 rcases h.pair with h | h
 ·exact h.ab
 ·cases h with
  | ls p q gy gx hl hs hd ep eq nh ap=>exact zGB nh
  | sl p q gy gx hl hs hd ep eq nh ap =>
   intro d hd';rw[hd] at hd';cases hd'
theorem bubble{ops:List Oper}(hs:Stat ops):∀(L1:List (Oper×Nat)) {x:Oper×Nat} {L2:List (Oper×Nat)} {st stf:St},(∀p∈L1++x :: L2,ops[p.2]? = some p.1)->(L1++x :: L2).Pairwise (λp q=>p.2<q.2)->Inv ops (L1++x :: L2) st ->
  (∀y∈L1,Indep ops y x stf.tm)->zCi E call ops (L1++x :: L2) st=some stf->zCi E call ops (x :: (L1++L2)) st=some stf
 | [],x,L2,st,stf,_,_,_,_,h=>h
 | y :: L1,x,L2,st,stf,hLo,hsort,hI,hind,h=>by
  obtain⟨oy,iy⟩:=y;obtain⟨ox,ix⟩:=x;simp only[List.cons_append,zCi] at h;obtain⟨st1,h1,h⟩:=zA h;have hsort':=(List.pairwise_cons.1 hsort).2;have hlt:=(List.pairwise_cons.1 hsort).1;have hI1:Inv ops (L1++(ox,ix) :: L2) st1:=hI.step hs hLo (λp hp=>List.mem_cons_of_mem _ hp) (List.mem_cons_self) (λo' hm=>by have:=hlt _ hm;simp at this) h1
  have ih:=bubble hs L1 (λp hp=>hLo p (List.mem_cons_of_mem _ hp)) hsort' hI1 (λz hz=>hind z (List.mem_cons_of_mem _ hz)) h
  simp only[zCi] at ih;obtain⟨st2,h2,h3⟩:=zA ih;have hi:=hind (oy,iy) List.mem_cons_self;have hpy:pivot ops iy=false:=hi.py;have hpx:pivot ops ix=false:=hi.px;have hoy:ops[iy]? = some oy:=hLo (oy,iy) List.mem_cons_self;have hox:ops[ix]? = some ox:=hLo (ox,ix) (by simp)
  have s1:jz E call ops oy st=some st1:=by have:=h1;unfold Qu at this;rw[hpy] at this;exact this
  have s2:jz E call ops ox st1=some st2:=by have:=h2;unfold Qu at this;rw[hpx] at this;exact this
  have hlt':=hlt;have keep:∀(t:Tmp),(t∈looks ops oy/\early ops iy t=true\/t∈looks ops ox/\early ops ix t=true)->∀v,solid v=true->stf.tm[t]? = some v->st.tm[t]? = some v:=by
   intro t ht v hsol hv;have hall:zCi E call ops ((oy,iy) :: (L1++(ox,ix) :: L2)) st=some stf:=by simp only[zCi,h1,zG];exact h
   refine seqD_tm hs hsol _ hLo (λp hp hd=>?_) hall hv
   rcases ht with ⟨_,he⟩ | ⟨hl,he⟩
   ·refine zE5 he (hLo p hp) ?_ hd;rcases List.mem_cons.1 hp with rfl | hp
    ·exact Nat.le_refl _
    ·have:=hlt' p hp;simp at this;omega
   ·rcases List.mem_cons.1 hp with rfl | hp
    ·exact hi.off t hd hl
    ·rcases List.mem_append.1 hp with hp | hp
     ·exact(hind p (List.mem_cons_of_mem _ hp)).off t hd hl
     ·refine zE5 he (hLo p (by simp[hp])) ?_ hd
      rcases List.mem_cons.1 hp with rfl | hp
      ·exact Nat.le_refl _
      ·have:=(List.pairwise_cons.1 (List.pairwise_append.1 hsort').2.1).1 p hp;simp at this;omega
  have hsw:∃st1',jz E call ops ox st=some st1'/\jz E call ops oy st1'=some st2:=by
   rcases hi.pair with hpr | hls
   ·exact swap hpr (hI.know hs (o:=oy) (i:=iy) List.mem_cons_self hoy hpy) (hI.know hs (o:=ox) (i:=ix) (by simp) hox hpx) s1 s2
   ·cases hls with
    | ls p q gy gx hl hst hd ep eq nh ap =>
     obtain⟨t,ht⟩:=hl;obtain⟨t',v',ht'⟩:=hst;have l1:p∈looks ops oy:=qU (by have:oy.op=_:=ht;rw[this];simp[Op.operands])
     have l2:q∈looks ops ox:=qU (by have:ox.op=_:=ht';rw[this];simp[Op.operands])
     have hap:=zDA ap (keep p (.inl ⟨l1,ep⟩)) (keep q (.inr ⟨l2,eq⟩));exact LdSt.swap ⟨gy,gx,⟨t,ht⟩,⟨t',v',ht'⟩,hd,zGB nh,hap⟩ s1 s2
    | sl p q gy gx hl hst hd ep eq nh ap =>
     obtain⟨t,ht⟩:=hl;obtain⟨t',v',ht'⟩:=hst;have l1:p∈looks ops ox:=qU (by have:ox.op=_:=ht;rw[this];simp[Op.operands])
     have l2:q∈looks ops oy:=qU (by have:oy.op=_:=ht';rw[this];simp[Op.operands])
     have hap:=zDA ap (keep p (.inr ⟨l1,ep⟩)) (keep q (.inl ⟨l2,eq⟩));exact LdSt.swap' ⟨gx,gy,⟨t,ht⟩,⟨t',v',ht'⟩,hd,zGB nh,hap⟩ s1 s2
  obtain⟨st1',t1,t2⟩:=hsw;have d1:Qu E call ops ox ix st=some st1':=by unfold Qu;rw[hpx];exact t1
  have d2:Qu E call ops oy iy st1'=some st2:=by unfold Qu;rw[hpy];exact t2
  simp only[List.cons_append,zCi,d1,zG,d2];exact h3
variable{base:Nat}{S:Nat->Prop}{φ:Nat->Option Nat}{st:St}{a:Act}{w:World}
theorem stepN_S{ops:List Oper}{o:Oper}(hg:jc ops o st.tm=some true)(hf:owns o.op=true->freeRef (zW o) st){st1:St}(h:jz E call ops o st=some st1):YN E call o st=some st1:=by
 unfold jz at h;obtain⟨ef,he,h⟩:=zA h;obtain⟨_,h⟩:=zE h;injection h with h
 rcases J7 he with ⟨hb,_⟩ | ⟨_,hee,hc⟩
 ·rw[hg] at hb;cases hb
 ·obtain⟨_,h1,_,h3⟩:=Jb hc;unfold YN;rw[hee];simp only[zG,h1,zR];cases hn:ef.new with
  | none=>simp only[h]
  | some b =>
   obtain⟨h4,h5⟩:=h3 b hn;have hfr:=hf ((Qd hee).new (by simp[hn]))
   simp only[h4,h5,Bool.and_true,zR,clear_free hfr,h]
theorem Inv.start(ops:List Oper)(L:List (Oper×Nat))(st:St):Inv ops L (clearL (anews ops) st):=λs hs =>
 ⟨λ_ _ _=>Y4 _ st s (.inl hs),λ_ _ _=>(Y4 _ st s (.inl hs)).only⟩
theorem Rel.clearL(bs:List Nat):∀{φ:Nat->Option Nat} {st:St},Rel E base S φ st a w->∃φ',Rel E base S φ' (Am.clearL bs st) a w:=by
 induction bs with
 | nil=>exact λh=>⟨_,h⟩
 | cons b bs ih=>exact λh=>ih (h.clear b)
theorem Qm{ops:List Oper}(hb:Yi ops=true){j:Nat}{o:Oper}(ho:ops[j]? = some o){e:Edge}(he:e∈o.after.toList)(hbd:Region.binds .any e=true):e.on<j:=by
 unfold Yi at hb;have hm:(o,j)∈ops.zipIdx:=by rw[List.mem_iff_getElem?];exact⟨j,by simp[List.getElem?_zipIdx,ho]⟩
 have h1:=List.all_eq_true.1 hb (o,j) hm;have h2:=List.all_eq_true.1 h1 e he;simpa[hbd] using h2
theorem clash_pair{ops:List Oper}(hs:Stat ops){i j:Nat}{a b:Oper}(ha:ops[i]? = some a)(hb:ops[j]? = some b)(hij:i<j)(hc:clash ops a b=false):Pair ops a b:=by
 unfold clash at hc;simp only[Bool.or_eq_false_iff] at hc;obtain⟨⟨⟨⟨c1,c2⟩,_⟩,c4⟩,c5⟩:=hc;have hit:∀{x y:Oper},hits ops x y=false->∀d,x.dst=some d->d ∉ looks ops y:=by intro x y h d hd;unfold hits at h;rw[hd] at h;simpa using h
 refine⟨List.mem_of_getElem? ha,List.mem_of_getElem? hb,(hs.plain a (List.mem_of_getElem? ha)).1,(hs.plain b (List.mem_of_getElem? hb)).1,hs.ord i j a b hij ha hb,hit c1,hit c2,λhl=>?_,λhl=>?_⟩
 ·rw[hl] at c4;simpa using c4
 ·rw[hl] at c5;simpa using c5
theorem zJF(hD:DOK P E)(hc:jv P E call){ops:Array Oper}(hs:Stat ops.toList){stf:St}(hord:Ord ops.toList stf.tm){Q:Exit->Act->World->Prop} :
  ∀(fuel:Nat) (listed:Array Bool) (L:List (Oper×Nat)) {S:Nat->Prop} {φ:Nat->Option Nat} {st:St} {a:Act} {w:World},
   listed.size=ops.size->(∀i,i<ops.size->(listed.getD i true=false ↔ ∃o,(o,i)∈L))->(∀p∈L,ops.toList[p.2]? = some p.1)->L.Pairwise (λp q=>p.2<q.2) ->
   (∀(j:Nat) o,ops.toList[j]? = some o->(∀o',(o',j) ∉ L)->∀e∈o.after.toList,Region.binds .any e=true->∀o',(o',e.on) ∉ L)->Inv ops.toList L st->L.length<=fuel ->
   Rel E base S φ st a w->zCi E call ops.toList L st=some stf->(∀S' φ' a' w',Rel E base S' φ' stf a' w'->Grow base S S' w w'->Q .normal a' w')->wpAny P .any ops Q fuel listed a w:=by
 intro fuel;have noReady:∀{listed:Array Bool} {L:List (Oper×Nat)},L=[]->(∀i,i<ops.size->(listed.getD i true=false ↔ ∃o,(o,i)∈L))->Region.ready .any ops listed=[]:=by intro listed L hL h;rw[List.eq_nil_iff_forall_not_mem];intro i hi;obtain⟨h0,o,ho,_⟩:=mem_ready.1 hi;have hlt:i<ops.size:=(Array.getElem?_eq_some_iff.1 ho).1;obtain⟨o',hm⟩:=(h i hlt).1 h0;rw[hL] at hm;simp at hm
 induction fuel with
 | zero =>
  intro listed L S φ st a w _ hli _ _ _ _ hlen hR hseq hQ;have hL:L=[]:=List.eq_nil_of_length_eq_zero (by omega)
  refine⟨noReady hL hli,?_⟩;subst hL;simp only[zCi,Option.some.injEq] at hseq;subst hseq;exact hQ S φ a w hR Grow.refl
 | succ fuel ih =>
  intro listed L S φ st a w hsz hli hLo hsort hcl hI hlen hR hseq hQ;have getD2:∀{j:Nat},j<ops.size->(listed.getD j false=true ↔ ¬listed.getD j true=false):=λ{j} hj=>by
   have:j<listed.size:=by omega
   simp[this]
  refine⟨λhr=>?_,λi hi=>?_⟩
  ·
   cases L with
   | nil =>
    simp only[zCi,Option.some.injEq] at hseq;subst hseq;exact hQ S φ a w hR Grow.refl
   | cons p L =>
    obtain⟨o,i⟩:=p;have ho:ops.toList[i]? = some o:=hLo (o,i) List.mem_cons_self;have hlt:i<ops.size:=by simpa using(List.getElem?_eq_some_iff.1 ho).1
    have hmem:i∈Region.ready .any ops listed:=by
     refine mem_ready.2 ⟨(hli i hlt).2 ⟨o,List.mem_cons_self⟩,o,by simpa using ho,λe he hb=>?_⟩
     have hlt2:=Qm hs.back ho (by simpa using he) hb
     rw[getD2 (by omega),hli e.on (by omega)]
     rintro⟨o',hm⟩;rcases List.mem_cons.1 hm with hm | hm
     ·injection hm with _ hm;omega
     ·have:=(List.pairwise_cons.1 hsort).1 _ hm;simp at this;omega
    rw[hr] at hmem;cases hmem
  ·obtain⟨h0,o,hoi,hall⟩:=mem_ready.1 hi;have hlt:i<ops.size:=(Array.getElem?_eq_some_iff.1 hoi).1;have ho:ops.toList[i]? = some o:=by simpa using hoi
   obtain⟨o1,hm⟩:=(hli i hlt).1 h0;have:o1=o:=by
    have:=hLo _ hm;rw[ho] at this;injection this with this;exact this.symm
   subst this;obtain⟨L1,L2,rfl⟩:=List.append_of_mem hm;have hlt1:∀y∈L1,y.2<i:=λy hy=>(List.pairwise_append.1 hsort).2.2 y hy (o1,i) List.mem_cons_self
   have hgt2:∀y∈L2,i<y.2:=λy hy=>(List.pairwise_cons.1 (List.pairwise_append.1 hsort).2.1).1 y hy
   have hanc:∀k,((qL ops.toList []).getD i 0).testBit k=true->∀o',(o',k) ∉ L1++(o1,i) :: L2:=by
    intro k hk;refine anc_done hs.back (λk=>∀o',(o',k) ∉ L1++(o1,i) :: L2) (λj oj hoj hd e he hb=>hcl j oj hoj hd e he hb) i o1 ho (λe he hb=>?_) k hk
    have hlt2:=Qm hs.back ho he hb;have:=hall e (by simpa using he) hb
    intro o' hm';rw[getD2 (by omega)] at this
    exact this ((hli e.on (by omega)).2 ⟨o',hm'⟩)
   have hind:∀y∈L1,Indep ops.toList y (o1,i) stf.tm:=λy hy=>by
    have hyi:=hlt1 y hy;have hyo:=hLo y (by simp[hy])
    have hnot:((qL ops.toList []).getD i 0).testBit y.2=false:=by
     cases h:((qL ops.toList []).getD i 0).testBit y.2 with
     | false=>rfl
     | true=>exact absurd (by simp[hy]) (hanc y.2 h y.1)
    have hcls:Pair ops.toList y.1 o1\/LsP ops.toList y (o1,i) stf.tm:=by
     rcases hord y.2 i y.1 o1 hyi hyo ho with (h | h) | ⟨p,q,h1,h2⟩
     ·exact .inl (clash_pair hs hyo ho hyi h)
     ·rw[hnot] at h;cases h
     ·exact .inr (lsP_of h1 h2)
    have hn:i<ops.toList.length:=by simpa using hlt
    refine⟨?_,?_,hcls⟩
    ·cases hp:pivot ops.toList y.2 with
     | false=>rfl
     | true =>
      unfold pivot at hp;have:=List.all_eq_true.1 hp i (List.mem_range.2 hn);simp only[Bool.or_eq_true,beq_iff_eq] at this;rcases this with e | this
      ·omega
      ·rw[if_neg (by omega),hnot] at this;cases this
    ·cases hp:pivot ops.toList i with
     | false=>rfl
     | true =>
      unfold pivot at hp;have:=List.all_eq_true.1 hp y.2 (List.mem_range.2 (by omega))
      simp only[Bool.or_eq_true,beq_iff_eq] at this;rcases this with e | this
      ·omega
      ·rw[if_pos hyi,hnot] at this;cases this
   have hb:=bubble (E:=E) (call:=call) hs L1 hLo hsort hI hind hseq;simp only[zCi] at hb;obtain⟨st1,h1,h2⟩:=zA hb;have hni:∀o',(o',i) ∉ L1++L2:=λo' hm'=>by
    rcases List.mem_append.1 hm' with hm' | hm'
    ·have:=hlt1 _ hm';simp at this
    ·have:=hgt2 _ hm';simp at this
   have hsub:∀p∈L1++L2,p∈L1++(o1,i) :: L2:=λp hp=>by
    rcases List.mem_append.1 hp with hp | hp
    ·exact List.mem_append_left _ hp
    ·exact List.mem_append_right _ (List.mem_cons_of_mem _ hp)
   have hI1:Inv ops.toList (L1++L2) st1:=hI.step hs hLo hsub (by simp) hni h1
   have next:∀{S1:Nat->Prop} {φ1:Nat->Option Nat} {a1:Act} {w1:World},Rel E base S1 φ1 st1 a1 w1->Grow base S S1 w w1->wpAny P .any ops Q fuel (listed.setIfInBounds i true) a1 w1:=by
    intro S1 φ1 a1 w1 hR1 hG1;refine ih (listed.setIfInBounds i true) (L1++L2) (by simpa using hsz) (λj hj=>?_) (λp hp=>hLo p (hsub p hp)) ?_ (λj oj hoj hd e he hbd o' hm'=>?_) hI1 (by simp at hlen ⊢;omega) hR1 h2 (λS' φ' a' w' k1 k2=>hQ S' φ' a' w' k1 (hG1.trans k2))
    ·by_cases e:i=j
     ·subst e;constructor
      ·intro h;rw[Array.getD_eq_getD_getElem?] at h;simp[show i<listed.size by omega] at h
      ·rintro⟨o',hm'⟩;exact absurd hm' (hni o')
     ·rw[getD_set_ne true e,hli j hj];constructor
      ·rintro⟨o',hm'⟩;refine⟨o',?_⟩;rcases List.mem_append.1 hm' with hm' | hm'
       ·exact List.mem_append_left _ hm'
       ·rcases List.mem_cons.1 hm' with hm' | hm'
        ·injection hm' with _ hm';exact absurd hm'.symm e
        ·exact List.mem_append_right _ hm'
      ·rintro⟨o',hm'⟩;exact⟨o',hsub _ hm'⟩
    ·refine List.Pairwise.sublist ?_ hsort;exact List.Sublist.append_left (List.sublist_cons_self _ _) _
    ·by_cases eji:j=i
     ·subst eji;rw[ho] at hoj;injection hoj with hoj;subst hoj
      have hlt2:=Qm hs.back ho he hbd;have:=hall e (by simpa using he) hbd
      rw[getD2 (by omega)] at this
      exact this ((hli e.on (by omega)).2 ⟨o',hsub _ hm'⟩)
     ·refine hcl j oj hoj (λo'' hm''=>?_) e he hbd o' (hsub _ hm')
      refine hd o'' ?_;rcases List.mem_append.1 hm'' with hm'' | hm''
      ·exact List.mem_append_left _ hm''
      ·rcases List.mem_cons.1 hm'' with hm'' | hm''
       ·injection hm'' with _ hm'';omega
       ·exact List.mem_append_right _ hm''
   unfold wpOp;simp only[hoi];have stepTo:(∃g,jc ops.toList o1 st.tm=some g/\((g=true/\YN E call o1 st=some st1)\/(g=false/\st1={ st with tm:=jh st.tm o1.dst (.d (.tup [])) }))):=by
    unfold Qu at h1;cases hp:pivot ops.toList i with
    | true =>
     rw[hp] at h1;obtain⟨g,hg,h1⟩:=zA h1;cases g with
     | true=>exact⟨true,hg,.inl ⟨rfl,h1⟩⟩
     | false=>injection h1 with h1;exact⟨false,hg,.inr ⟨rfl,h1.symm⟩⟩
    | false =>
     rw[hp] at h1;simp only at h1;have hk:=hI.know hs (o:=o1) (i:=i) (by simp) ho hp
     cases hg:jc ops.toList o1 st.tm with
     | none=>unfold jz zAc at h1;rw[hg] at h1;cases h1
     | some g =>
      cases g with
      | true=>exact⟨true,rfl,.inl ⟨rfl,stepN_S hg hk.free h1⟩⟩
      | false =>
       unfold jz zAc at h1;rw[hg] at h1;simp only[zG,Option.isNone_none,Bool.true_or,zR,Option.some.injEq] at h1;exact⟨false,rfl,.inr ⟨rfl,h1.symm⟩⟩
   obtain⟨g,hg,hst⟩:=stepTo;have hw:=zB7 hR.tm hg;rcases hst with ⟨rfl,hst⟩ | ⟨rfl,rfl⟩
   ·rw[hw];refine .inl (Oper.wp_mono (λa' w' hp=>?_) (zEU hD hc hR hst))
    obtain⟨S1,φ1,hR1,hG1⟩:=hp;exact next hR1 hG1
   ·rw[hw];exact next (hR.skip o1.dst) Grow.refl
theorem zAX{ops:List Oper}{st:St}{K:St->Option CR}{r:CR}(h:JS E call ops true st K=some r) :
  ∃stf,zCi E call ops ops.zipIdx (clearL (anews ops) st)=some stf/\K stf=some r/\Stat ops/\Ord ops stf.tm:=by
 simp only[JS] at h;cases hok:zAK ops with
 | true =>
  rw[hok] at h;obtain⟨stf,hseq,hKf⟩:=zAj ops.zipIdx _ h;exact⟨stf,hseq,hKf,stat_of hok,ord_of hok _⟩
 | false =>
  rw[hok] at h;obtain⟨hok2,h⟩:=zE h;obtain⟨stf,hseq,hKf⟩:=zAj ops.zipIdx _ h;obtain⟨hl,hKf⟩:=zE hKf;exact⟨stf,hseq,hKf,stat_of2 hok2,ord_of2 hl⟩
theorem zDw(hD:DOK P E)(hm:P.follows .mixedOrders=true)(hc:jv P E call){id:Nat}{ops:Array Oper}{draw:Bool}{K:St->Option CR}{r:CR}{Q:Exit->Act->World->Prop}(h:JS E call ops.toList draw st K=some r)
  (hR:Rel E base S φ st a w) (hK:∀st' S' φ' a' w',K st'=some r->Rel E base S' φ' st' a' w'->Grow base S S' w w'->Q .normal a' w'):(Code.region id ops draw).wp P Q a w:=by
 cases draw with
 | false =>
  refine wp_region ?_;have:=Y1 hD hc (Q:=Q) ops.toList 0 (by simp) (Nat.zero_le _) h hR hK
  rw[List.range_eq_range'];simpa using this
 | true =>
  refine wp_region_any hm ?_;obtain⟨stf,hseq,hKf,hs,hord⟩:=zAX h;obtain⟨hRd,hGd⟩:=hR.drew;obtain⟨φ1,hR1⟩:=hRd.clearL (anews ops.toList);have hz:∀p∈ops.toList.zipIdx,ops.toList[p.2]? = some p.1:=λp hp=>by obtain⟨k,hk⟩:=List.mem_iff_getElem?.1 hp;simp only[List.getElem?_zipIdx,Option.map_eq_some_iff] at hk;obtain⟨x,hx,e⟩:=hk;subst e;simpa using hx
  refine zJF (Q:=Q) hD hc hs hord ops.size (Array.replicate ops.size false) ops.toList.zipIdx (by simp) (λi hi=>?_) hz ?_ (λj o ho hd=>?_) (Inv.start _ _ st) (by simp) hR1 hseq (λS' φ' a' w' k1 k2=>hK stf S' φ' a' w' hKf k1 (hGd.trans k2))
  ·constructor
   ·intro _;exact⟨ops[i],by rw[List.mem_iff_getElem?];exact⟨i,by simp[List.getElem?_zipIdx,hi]⟩⟩
   ·intro _;simp[hi]
  ·rw[List.pairwise_iff_getElem];intro i j hi hj hij;simp;exact hij
  ·exact absurd (by rw[List.mem_iff_getElem?];exact⟨j,by simp only[List.getElem?_zipIdx,ho];simp⟩) (hd o)
end
end Go.Am
namespace Go.Am
open Go.Proofs
open Go Go.RowKit
def zA6:Ex->Exit
 | .normal=>.normal
 | .exit id=>.exit id
 | .ret=>.ret
section
variable{P:Program}{E:Env}{call:FuncId->List DV->Option CR}{base:Nat}
theorem J6(hD:DOK P E)(hm:P.follows .mixedOrders=true)(hc:jv P E call){n:Nat}{r:CR}:∀(c:Code) {K:Ex->St->Option CR} {S:Nat->Prop} {φ:Nat->Option Nat} {st:St} {a:Act} {w:World} {Q:Exit->Act->World->Prop},
  exec E n call c st K=some r->Rel E base S φ st a w->(∀ex st' S' φ' a' w',K ex st'=some r->Rel E base S' φ' st' a' w'->Grow base S S' w w'->Q (zA6 ex) a' w')->c.wp P Q a w:=by
 intro c;induction c with
 | skip=>intro K S φ st a w Q h hR hK;exact wp_skip (hK .normal st S φ a w h hR Grow.refl)
 | label l=>intro K S φ st a w Q h hR hK;exact wp_label (hK .normal st S φ a w h hR Grow.refl)
 | region id ops draw=>intro K S φ st a w Q h hR hK;exact zDw hD hm hc h hR λst' S' φ' a' w' k1 k2 k3=>hK .normal st' S' φ' a' w' k1 k2 k3
 | seq x y ihx ihy =>
  intro K S φ st a w Q h hR hK;refine wp_seq (ihx (K:=QF (λst'=>exec E n call y st' K) K) h hR λex st' S' φ' a' w' k1 k2 k3=>?_)
  cases ex with
  | normal=>exact ihy k1 k2 λex st2 S2 φ2 a2 w2 j1 j2 j3=>hK ex st2 S2 φ2 a2 w2 j1 j2 (k3.trans j3)
  | exit id=>exact hK (.exit id) st' S' φ' a' w' k1 k2 k3
  | ret=>exact hK .ret st' S' φ' a' w' k1 k2 k3
 | cond c x y ihx ihy =>
  intro K S φ st a w Q h hR hK;simp only[exec] at h;obtain⟨v,hv,h⟩:=zA h;obtain⟨t,ht,h⟩:=zA h;have hc:=zGF ht (hR.ev c v hv);cases t with
  | true=>exact wp_cond_true hc (ihx h hR hK)
  | false=>exact wp_cond_false hc (ihy h hR hK)
 | block id c ih =>
  intro K S φ st a w Q h hR hK;refine wp_block (ih (K:=Qh id K) h hR λex st' S' φ' a' w' k1 k2 k3=>?_)
  cases ex with
  | normal=>exact hK .normal st' S' φ' a' w' k1 k2 k3
  | ret=>exact hK .ret st' S' φ' a' w' k1 k2 k3
  | exit i =>
   simp only[Qh] at k1;simp only[zA6,Exit.inBlock];split at k1
   ·rename_i e;rw[if_pos e];exact hK .normal st' S' φ' a' w' k1 k2 k3
   ·rename_i e;rw[if_neg e];exact hK (.exit i) st' S' φ' a' w' k1 k2 k3
 | scope c ih =>
  intro K S φ st a w Q h hR hK;refine wp_scope_straight (ih h hR λex st' S' φ' a' w' k1 k2 k3=>?_)
  cases ex with
  | normal=>exact hK .normal st' S' φ' a' w' k1 k2 k3
  | ret=>exact hK .ret st' S' φ' a' w' k1 k2 k3
  | exit i=>exact hK (.exit i) st' S' φ' a' w' k1 k2 k3
 | loop c ih =>
  intro K S φ st a w Q h hR hK;refine wp_loop_rounds n ?_;have key:∀(m:Nat) {S:Nat->Prop} {φ:Nat->Option Nat} {st:St} {a:Act} {w:World},Q3 (exec E n call c) m st K=some r->Rel E base S φ st a w ->
    (∀ex st' S' φ' a' w',K ex st'=some r->Rel E base S' φ' st' a' w'->Grow base S S' w w'->Q (zA6 ex) a' w')->Code.rounds P c Q m a w:=by
   intro m;induction m with
   | zero=>intro S φ st a w h _ _;simp[Q3] at h
   | succ m ihm =>
    intro S φ st a w h hR hK;simp only[Q3] at h;refine ih (K:=QF (λst'=>Q3 (exec E n call c) m st' K) K) h hR λex st' S' φ' a' w' k1 k2 k3=>?_
    cases ex with
    | normal=>exact ihm k1 k2 λex st2 S2 φ2 a2 w2 j1 j2 j3=>hK ex st2 S2 φ2 a2 w2 j1 j2 (k3.trans j3)
    | exit id=>exact hK (.exit id) st' S' φ' a' w' k1 k2 k3
    | ret=>exact hK .ret st' S' φ' a' w' k1 k2 k3
  exact key n h hR hK
 | exit id=>intro K S φ st a w Q h hR hK;exact wp_exit (hK (.exit id) st S φ a w h hR Grow.refl)
 | ret=>intro K S φ st a w Q h hR hK;exact wp_ret (hK .ret st S φ a w h hR Grow.refl)
 | _=>intros;rename_i h _ _;simp[exec] at h
theorem zIv(hD:DOK P E){S:Nat->Prop}{φ:Nat->Option Nat}{st:St}{a:Act}{w:World}(hR:Rel E base S φ st a w){v:ResultVar}{x:AV}(h:zIP E st v=some x) :
  ∃u,(match v with | .tmp t=>pure (a.tmps.getD t undef) | .cell b t=>do loadVar t (<-asAddr (a.tmps.getD b undef)):Sem Value).run P w=.ok u w/\RAV E.L S φ w x u:=by
 cases v with
 | tmp t =>
  obtain⟨u,hu,hr⟩:=hR.tm t x h;exact⟨u,by simp[hu],hr⟩
 | cell b t =>
  simp only[zIP] at h;obtain⟨p,hp,h⟩:=zA h;obtain⟨ef,he,h⟩:=zA h;injection h with h
  obtain⟨u,hu,hr⟩:=hR.tm b p hp;obtain⟨y,z,rfl,hz,hyz⟩:=qc hD hR hr he;subst h;refine⟨z,?_,hyz⟩;have e:a.tmps.getD b undef=u:=by simp[hu]
  simp only[e];cases u with
  | pointer q =>
   cases q with
   | none=>simp[Instr.loadAt,Instr.sureAddr] at hz
   | some q =>
    simp only[Instr.loadAt,Instr.sureAddr,Sem.run_bind,Sem.run_pure,Result.andThen_ok] at hz;simp only[asAddr,Sem.run_bind,Sem.run_pure,Result.andThen_ok,hz]
  | _=>simp[Instr.loadAt,Instr.sureAddr] at hz
theorem zDb(hD:DOK P E){S:Nat->Prop}{φ:Nat->Option Nat}{st:St}{a:Act}{w:World}(hR:Rel E base S φ st a w):∀(rs:List ResultVar) (xs:List AV),zDx E st rs=some xs ->
  ∃us:List Value,(rs.mapM λv=>(match v with | .tmp t=>pure (a.tmps.getD t undef) | .cell b t=>do loadVar t (<-asAddr (a.tmps.getD b undef)):Sem Value)).run P w=.ok us w/\ListOK E.L S φ w xs us
 | [],xs,h=>by
  simp[zDx] at h;subst h;exact⟨[],rfl,rfl,λi a=>by simp at a⟩
 | v :: rs,xs,h=>by
  simp only[zDx] at h;obtain⟨x,hx,h⟩:=zA h;obtain⟨ys,hys,h⟩:=zA h;injection h with h;subst h
  obtain⟨u,hu,hr⟩:=zIv hD hR hx;obtain⟨us,hus,hl⟩:=zDb hD hR rs ys hys;refine⟨u :: us,?_,by simp[hl.1],λi a b=>?_⟩
  ·rw[List.mapM_cons,Sem.run_bind,hu,Result.andThen_ok,Sem.run_bind,hus,Result.andThen_ok];rfl
  ·cases i with
   | zero=>exact hr
   | succ i=>exact hl.2 i (by simpa using a) (by simpa using b)
end
end Go.Am
namespace Go.Am
open Go.Proofs
open Go Go.RowKit
section
variable{P:Program}{E:Env}{base:Nat}
theorem zG9:∀{xs:List DV},zIT xs=true->∀i (h:i<xs.length),xs[i].isTup=false
 | [],_,i,h=>by simp at h
 | x :: xs,hn,i,h=>by
  simp only[zIT,Bool.and_eq_true,Bool.not_eq_true'] at hn;cases i with
  | zero=>exact hn.1
  | succ i=>exact zG9 hn.2 i (by simpa using h)
theorem zIs{fn:Func}{a:Act}{w:World}{us:List Value}
  (h:(fn.results.toList.mapM λv=>(match v with | .tmp t=>pure (a.tmps.getD t undef) | .cell b t=>do loadVar t (<-asAddr (a.tmps.getD b undef)):Sem Value)).run P w=.ok us w) :
  (results fn a.tmps).run P w=.ok (match us with | [u]=>u | us=>.tuple us.toArray) w:=by
 have e:results fn a.tmps=(do
   let vs <-fn.results.mapM (λv=>(match v with | .tmp t=>pure (a.tmps.getD t undef) | .cell b t=>do loadVar t (<-asAddr (a.tmps.getD b undef)):Sem Value))
   pure (if h:vs.size=1 then vs[0] else .tuple vs):Sem Value):=rfl
 rw[e,Sem.run_bind,Array.mapM_eq_mapM_toList];simp only[Sem.run_map,h,Result.andThen_ok,Sem.run_pure]
 match us with
 | []=>rfl
 | [u]=>rfl
 | _ :: _ :: _=>simp
theorem zF5{S S':Nat->Prop}{φ:Nat->Option Nat}{st:St}{a:Act}{w w':World}(hR:Rel E w.heap.size S' φ st a w')(hG:Grow w.heap.size S S' w w')(ss:List Nat) :
  (∀b,S b->Plus S' φ st.hp ss b)/\(∀b,Plus S' φ st.hp ss b->S b\/w.heap.size<=b)/\(∀b,Plus S' φ st.hp ss b->b<w'.heap.size):=by
 refine⟨λb hb=>.inl (hG.sub b hb),λb hb=>?_,λb hb=>?_⟩
 ·rcases hb with hb | ⟨s,_,ob,hob,hφ⟩
  ·exact hG.new b hb
  ·obtain⟨c,hc,h1,_⟩:=hR.blk s ob hob;rw[hφ] at hc;injection hc with hc;subst hc
   exact .inr h1
 ·rcases hb with hb | ⟨s,_,ob,hob,hφ⟩
  ·exact hR.lt b hb
  ·obtain⟨c,hc,_,h2,_⟩:=hR.blk s ob hob;rw[hφ] at hc;injection hc with hc;subst hc
   exact h2.lt
theorem Jv(hD:DOK P E){S S':Nat->Prop}{φ:Nat->Option Nat}{st:St}{a:Act}{w w':World}(hR:Rel E w.heap.size S' φ st a w')(hG:Grow w.heap.size S S' w w'){fresh:Bool}{fn:Func}{r:CR}(h:fin E fresh fn st=some r) :
  a.defers=[]/\∃v,(results fn a.tmps).run P w'=.ok v w'/\zAR E S w r v w':=by
 refine⟨hR.dfr,?_⟩;unfold fin at h;obtain⟨xs,hxs,h⟩:=zA h;obtain⟨us,hus,hl⟩:=zDb hD hR _ _ hxs;have hrun:=zIs hus;have many:∀{ds:List DV},JV st.hp xs=some ds->zIT ds=true->zAR E S w (.val (.tup ds)) (.tuple us.toArray) w':=by
  intro ds hds hnt;obtain⟨h1,h2⟩:=zAf hR xs us ds hds hl;obtain⟨p1,p2,p3⟩:=zF5 hR hG (jR st.hp xs);refine⟨_,hG.below,p1,p2,p3,us,rfl,by rw[hl.1,h1],λi a b=>?_⟩
  exact RV.rd (zG9 hnt i a) (h2 i a b)
 split at h
 ·rename_i v;obtain⟨u,rfl⟩:∃u,us=[u]:=List.length_eq_one_iff.1 (by simpa using hl.1)
  have hv:=hl.2 0 (by simp) (by simp)
  simp only[List.getElem_cons_zero] at hv;refine⟨u,hrun,?_⟩;cases fresh with
  | false =>
   simp only at h;obtain⟨x,hx,h⟩:=zA h;obtain⟨hnt,h⟩:=zE h;injection h with h;subst h
   obtain⟨p1,p2,p3⟩:=zF5 hR hG (sites st.hp zp v);exact⟨_,hG.below,p1,p2,p3,snapV hR hx hv⟩
  | true =>
   simp only at h;unfold zAM at h;split at h
   ·injection h with h;subst h
    obtain⟨p1,p2,p3⟩:=zF5 hR hG [];exact⟨_,hG.below,p1,p2,p3,RV.mono (show RV E.L S' w' .nl u from hv) (λb hb=>.inl hb) λ_ _=>rfl⟩
   ·rename_i b off len sz;split at h
    case h_2=>simp at h
    rename_i s ys hsl;split at h
    case isFalse=>simp at h
    rename_i hcond;obtain⟨rfl,rfl,rfl⟩:=hcond;injection h with h;subst h
    obtain⟨cb,hφ,hb,hrb,hfz⟩:=hR.blk b _ hsl;refine⟨S',hG.below,hG.sub,hG.new,hR.lt,cb,hb,λhh=>by simpa using hfz.1 hh,λφ'=>hrb,λφ' s' hs'=>?_⟩
    rcases RAV.own hv with ⟨cb',c,hφ',hc,hroom,rfl⟩ | ⟨a',h0,rfl⟩
    ·have e:cb=cb':=Option.some.inj (hφ.symm.trans hφ');subst e;refine⟨?_,rfl⟩;have:=RA.own (L:=E.L) (S:=S') (φ:=φ') (w:=w') s' 0 ys.length s cb c hs' hc hroom;simpa[vcs,Value.cells] using this
    ·refine⟨?_,rfl⟩;rw[h0];exact .own0 s' 0 s a'
   ·simp at h
 ·rename_i vs hne;obtain⟨ds,hds,h⟩:=zA h;obtain⟨hg,h⟩:=zE h;simp only[Bool.and_eq_true] at hg;injection h with h;subst h
  refine⟨.tuple us.toArray,?_,many hds hg.2⟩;rw[hrun]
  match us,hl.1 with
  | [],_=>rfl
  | [u],hlen =>
   exfalso;obtain⟨x,rfl⟩:∃x,xs=[x]:=List.length_eq_one_iff.1 (by simpa using hlen.symm)
   exact hne x rfl
  | _ :: _ :: _,_=>rfl
theorem zJt{S:Nat->Prop}{w:World}{φ:Nat->Option Nat}{fn:Func}{ds:List DV}{vals:List Value}(hlen:vals.length=ds.length)(hrv:∀i (h:i<ds.length) (h':i<vals.length),RV E.L S w ds[i] vals[i])(hn:ds.length<=fn.ntmps)
  (t:Nat) (v:AV) (hv:(entry fn ds).tm[t]? = some v):∃u,(vals.toArray++Array.replicate (fn.ntmps - vals.toArray.size) undef)[t]? = some u/\RAV E.L S φ w v u:=by
 simp only[entry] at hv;by_cases ht:t<ds.length
 ·rw[List.getElem?_append_left (by simpa using ht)] at hv
  simp only[List.getElem?_map,List.getElem?_eq_getElem ht,Option.map_some,Option.some.injEq] at hv;subst hv;refine⟨vals[t]'(by omega),?_,hrv t ht (by omega)⟩
  rw[Array.getElem?_append_left (by simp;omega)]
  simp[show t<vals.length by omega]
 ·rw[List.getElem?_append_right (by simp;omega)] at hv
  simp only[List.length_map,List.getElem?_replicate] at hv;split at hv
  ·injection hv with hv;subst hv
   refine⟨undef,?_,trivial⟩;rw[Array.getElem?_append_right (by simp;omega)]
   simp[Array.getElem?_replicate];omega
  ·cases hv
structure EnvOK(P:Program)(E:Env):Prop where
 D:DOK P E
 mixed:P.follows .mixedOrders=true
 F:∀f fn,E.F f=some fn->P.funcs[f]? = some fn/\(fn.name == "runtime.NumGoroutine")=false
 orc:∀f g,E.orc f=some g->jv P E λf' ds=>if f'=f then g ds else none
end
end Go.Am
namespace Go.Am
open Go.Proofs
open Go Go.RowKit
mutual
def zrd(L:Nat->List Nat):DV->List Value->Bool
 | .bool b,cs=>match cs with | [.bool c]=>b == c | _=>false
 | .int k n,cs=>match cs with | [.int j m]=>k == j && n == m | _=>false
 | .flt k n,cs=>match cs with | [.float j m]=>k == j && n == m | _=>false
 | .cpx k x y,cs=>match cs with | [.complex j u v]=>k == j && x == u && y == v | _=>false
 | .str s,cs=>match cs with | [.string t]=>s.size == 0 && t.size == 0 | _=>false
 | .nl,cs=>match cs with | [.slice none 0 0]=>true | _=>false
 | .nilFn,cs=>match cs with | [.nilFunc]=>true | _=>false
 | .nilPtr,cs=>match cs with | [.pointer none]=>true | _=>false
 | .nilMp,cs=>match cs with | [.map none]=>true | _=>false
 | .nilIf,cs=>match cs with | [.nilIface]=>true | _=>false
 | .agg tag fs,cs=>zrdL L (L tag) fs cs
 | _,_=>false
def zrdL(L:Nat->List Nat):List Nat->List DV->List Value->Bool
 | [],[],[]=>true
 | n :: ns,x :: xs,cs=>decide (n<=cs.length) && zrd L x (cs.take n) && zrdL L ns xs (cs.drop n)
 | _,_,_=>false
end
section
variable{L:Nat->List Nat}
theorem byte_empty{s t:ByteArray}(h:s.size=0)(k:t.size=0):s=t:=by obtain⟨x⟩:=s;obtain⟨y⟩:=t;have hx:x=#[]:=Array.eq_empty_of_size_eq_zero h;have hy:y=#[]:=Array.eq_empty_of_size_eq_zero k;rw[hx,hy]
mutual
theorem zGm:∀(x:DV) (cs:List Value),zrd L x cs=true->∀S w,RD L S w x cs
 | .bool b,cs,h,S,w=>by simp only[zrd] at h;split at h <;> simp at h;subst h;exact .bool _
 | .int k n,cs,h,S,w=>by
  simp only[zrd] at h;split at h
  ·simp only[Bool.and_eq_true,beq_iff_eq] at h;rw[h.1,h.2];exact .int _ _
  ·simp at h
 | .flt k n,cs,h,S,w=>by
  simp only[zrd] at h;split at h
  ·simp only[Bool.and_eq_true,beq_iff_eq] at h;rw[h.1,h.2];exact .flt _ _
  ·simp at h
 | .cpx k a b,cs,h,S,w=>by
  simp only[zrd] at h;split at h
  ·simp only[Bool.and_eq_true,beq_iff_eq] at h;rw[h.1.1,h.1.2,h.2];exact .cpx _ _ _
  ·simp at h
 | .str s,cs,h,S,w=>by
  simp only[zrd] at h;split at h
  ·simp only[Bool.and_eq_true,beq_iff_eq] at h;rw[byte_empty h.1 h.2];exact .str _
  ·simp at h
 | .nl,cs,h,S,w=>by simp only[zrd] at h;split at h <;> simp at h;exact .nl _
 | .nilFn,cs,h,S,w=>by simp only[zrd] at h;split at h <;> simp at h;exact .nilFn
 | .nilPtr,cs,h,S,w=>by simp only[zrd] at h;split at h <;> simp at h;exact .nilPtr
 | .nilMp,cs,h,S,w=>by simp only[zrd] at h;split at h <;> simp at h;exact .nilMp
 | .nilIf,cs,h,S,w=>by simp only[zrd] at h;split at h <;> simp at h;exact .nilIf
 | .agg tag fs,cs,h,S,w=>by
  simp only[zrd] at h;obtain⟨css,h1,h2,h3,h4⟩:=zER (L tag) fs cs h S w;rw[h1];exact .agg tag fs css h2 h3 h4
 | .sl _ _,cs,h,S,w=>by simp[zrd] at h
 | .fn _ _ _,cs,h,S,w=>by simp[zrd] at h
 | .dp _,cs,h,S,w=>by simp[zrd] at h
 | .mp _ _,cs,h,S,w=>by simp[zrd] at h
 | .ifc _ _,cs,h,S,w=>by simp[zrd] at h
 | .tup _,cs,h,S,w=>by simp[zrd] at h
theorem zER:∀(ns:List Nat) (fs:List DV) (cs:List Value),zrdL L ns fs cs=true->∀S w,
  ∃css:List (List Value),cs=css.flatten/\css.length=fs.length/\(∀i (h:i<fs.length) (h':i<css.length),RD L S w fs[i] css[i])/\css.map (·.length)=ns
 | [],[],[],_,S,w=>⟨[],rfl,rfl,λi h=>by simp at h,rfl⟩
 | n :: ns,x :: xs,cs,h,S,w=>by
  simp only[zrdL,Bool.and_eq_true,decide_eq_true_eq] at h;obtain⟨css,h1,h2,h3,h4⟩:=zER ns xs (cs.drop n) h.2 S w;refine⟨cs.take n :: css,by rw[List.flatten_cons,<-h1,List.take_append_drop],by simp[h2],λi a b=>?_,by simp[h4,h.1.1]⟩
  cases i with
  | zero=>exact zGm x (cs.take n) h.1.2 S w
  | succ i=>exact h3 i (by simpa using a) (by simpa using b)
 | [],[],_ :: _,h,S,w=>by simp[zrdL] at h
 | [],_ :: _,_,h,S,w=>by simp[zrdL] at h
 | _ :: _,[],_,h,S,w=>by simp[zrdL] at h
end
def Ye(P:Program)(L:Nat->List Nat)(FL:TypeId->List TypeId)(t:TypeId):TK->Bool
 | .int k=>match P.underlying t with | some (.int j)=>j == k | _=>false
 | .bool=>match P.underlying t with | some .bool=>true | _=>false
 | .str=>match P.underlying t with | some .string=>true | _=>false
 | .flt k=>match P.underlying t with | some (.float j)=>j == k | _=>false
 | .cpx k=>match P.underlying t with | some (.complex j)=>j == k | _=>false
 | .ptr e=>match P.underlying t with | some (.pointer f)=>f == e | _=>false
 | .slice e=>match P.underlying t with | some (.slice f)=>f == e | _=>false
 | .map k e=>match P.underlying t with | some (.map j f)=>j == k && f == e | _=>false
 | .func=>match P.underlying t with | some (.func _ _ _)=>true | _=>false
 | .iface=>match P.underlying t with | some (.interface _)=>true | _=>false
 | .struct tag=>match P.underlying t with
  | some (.struct fs)=>fs.toList.map (·.type) == FL t && fs.size == (L tag).length && (List.range fs.size).all λi=>match fs[i]? with
   | some f=>f.offset == ((L tag).take i).sum && match P.info? f.type with
    | some j=>(L tag)[i]? == some j.size && j.size != 0
    | none=>false
   | none=>true
  | _=>false
 | .array tag n e=>match P.underlying t with
  | some (.array m f)=>m == n && f == e && match P.info? e with
   | some j=>L tag == List.replicate n j.size
   | none=>false
  | _=>false
theorem zHy{P:Program}{FL:TypeId->List TypeId}{t:TypeId}{k:TK}(h:Ye P L FL t k=true):Dsc P L FL t k:=by
 cases k with
 | int k =>
  simp only[Ye] at h;split at h
  ·rename_i j hu;simp only[beq_iff_eq] at h;subst h;exact hu
  ·simp at h
 | flt k =>
  simp only[Ye] at h;split at h
  ·rename_i j hu;simp only[beq_iff_eq] at h;subst h;exact hu
  ·simp at h
 | cpx k =>
  simp only[Ye] at h;split at h
  ·rename_i j hu;simp only[beq_iff_eq] at h;subst h;exact hu
  ·simp at h
 | bool =>
  simp only[Ye] at h;split at h
  ·rename_i hu;exact hu
  ·simp at h
 | str =>
  simp only[Ye] at h;split at h
  ·rename_i hu;exact hu
  ·simp at h
 | ptr e =>
  simp only[Ye] at h;split at h
  ·rename_i j hu;simp only[beq_iff_eq] at h;subst h;exact hu
  ·simp at h
 | slice e =>
  simp only[Ye] at h;split at h
  ·rename_i j hu;simp only[beq_iff_eq] at h;subst h;exact hu
  ·simp at h
 | map k e =>
  simp only[Ye] at h;split at h
  ·rename_i j f hu;simp only[Bool.and_eq_true,beq_iff_eq] at h;obtain⟨h1,h2⟩:=h;subst h1;subst h2;exact hu
  ·simp at h
 | func =>
  simp only[Ye] at h;split at h
  ·rename_i hu;exact⟨_,_,_,hu⟩
  ·simp at h
 | iface =>
  simp only[Ye] at h;split at h
  ·rename_i hu;exact⟨_,hu⟩
  ·simp at h
 | struct tag =>
  simp only[Ye] at h;split at h
  case h_2=>simp at h
  rename_i fs hu;simp only[Bool.and_eq_true,beq_iff_eq] at h;obtain⟨⟨h1,h2⟩,h3⟩:=h;refine⟨fs,hu,h1,h2,λi f hf=>?_⟩
  have hi:i<fs.size:=(Array.getElem?_eq_some_iff.1 hf).1;have h4:=List.all_eq_true.1 h3 i (List.mem_range.2 hi);rw[hf] at h4;simp only[Bool.and_eq_true,beq_iff_eq] at h4;refine⟨h4.1,?_⟩;have h5:=h4.2;split at h5
  ·rename_i j hj;simp only[Bool.and_eq_true,beq_iff_eq,bne_iff_ne,ne_eq] at h5;exact⟨j,hj,h5.1,h5.2⟩
  ·cases h5
 | array tag n e =>
  simp only[Ye] at h;split at h
  case h_2=>simp at h
  rename_i m f hu;simp only[Bool.and_eq_true,beq_iff_eq] at h;obtain⟨⟨h1,h2⟩,h3⟩:=h;subst h1;subst h2;refine⟨hu,?_⟩;split at h3
  ·rename_i j hj;exact⟨j,hj,by simpa using h3⟩
  ·cases h3
def chkTD(P:Program)(E:Env)(t:TypeId)(d:TD):Bool :=
 (match P.info? t with
  | some i=>i.size == d.size && i.bytes == d.bytes && (match i.zero with | some z=>zrd E.L d.zero z.cells.toList && (Jx z == d.zero.isAgg) | none=>false)
  | none=>false) &&
 Ye P E.L E.flds t d.k && (match d.k with | .struct tag=>d.size == (E.L tag).sum | .array tag _ _=>d.size == (E.L tag).sum | _=>d.size == 1) &&
 !d.zero.isTup && fits d (.d d.zero) &&
 (!d.eqOK || (!P.eqGuardType P.depth t && !P.stoodInHeld t && (match d.k with | .struct _=>(P.fieldsOf t).toList.all λf=>f.name != "_" | _=>true)))
theorem zJA{P:Program}{E:Env}{t:TypeId}{d:TD}(h:chkTD P E t d=true):TOK P E t d:=by
 unfold chkTD at h;simp only[Bool.and_eq_true] at h;obtain⟨⟨⟨⟨⟨h1,h2⟩,h3⟩,h4⟩,h5⟩,h6⟩:=h;simp only[Bool.not_eq_true'] at h4;refine⟨?_,zHy h2,?_,h4,h5,λhe=>?_⟩
 ·split at h1
  ·rename_i i hi;simp only[Bool.and_eq_true,beq_iff_eq] at h1;obtain⟨⟨a1,a2⟩,a3⟩:=h1;split at a3
   ·rename_i z hz;simp only[Bool.and_eq_true,beq_iff_eq] at a3;exact⟨i,z,hi,a1,a2,hz,λS w=>RV.of h4 (zGm d.zero _ a3.1 S w) a3.2⟩
   ·cases a3
  ·cases h1
 ·cases hk:d.k <;> rw[hk] at h3 <;> simpa using h3
 ·rw[he] at h6;simp only[Bool.not_true,Bool.false_or,Bool.and_eq_true,Bool.not_eq_true'] at h6;refine⟨h6.1.1,h6.1.2,?_⟩;have h7:=h6.2;cases hk:d.k <;> rw[hk] at h7 <;> try trivial
  intro f hf;have:=List.all_eq_true.1 h7 f (by simpa using hf)
  simpa using this
end
end Go.Am
namespace Go.Am
open Go.Proofs
open Go Go.RowKit
def DT(E:Env):Nat->TypeId->DV->Prop
 | 0,_,_=>False
 | n+1,t,x=>match E.D t with
  | none=>False
  | some td=>match td.k with
   | .int k=>∃m,x=.int k m/\k.min<=m/\m<=k.max
   | .bool=>∃b,x=.bool b
   | .flt k=>∃b,x=.flt k b/\(Lit.float k b).wf=true
   | .str=>∃s,x=.str s
   | .slice e=>∃(ed:TD) (xs:List DV),E.D e=some ed/\x=.sl ed.size xs/\∀y∈xs,DT E n e y
   | .struct tag=>∃xs:List DV,x=.agg tag xs/\xs.length=(E.flds t).length/\∀(i:Nat) (u:TypeId) (y:DV),(E.flds t)[i]? = some u->xs[i]? = some y->DT E n u y
   | .array tag m e=>∃xs:List DV,x=.agg tag xs/\xs.length=m/\∀y∈xs,DT E n e y
   | _=>False
def slicy(E:Env):Nat->TypeId->Bool
 | 0,_=>true
 | n+1,t=>match E.D t with
  | none=>true
  | some td=>match td.k with
   | .slice _=>true
   | .struct _=>(E.flds t).any (slicy E n)
   | .array _ _ e=>slicy E n e
   | _=>false
def okTy(E:Env)(nest:Bool):Nat->TypeId->Bool
 | 0,_=>false
 | n+1,t=>match E.D t with
  | none=>false
  | some td=>match td.k with
   | .int _ | .bool | .flt _ | .str=>true
   | .slice e=>(match E.D e with | some ed=>decide (0<ed.size) | none=>false) && okTy E nest n e && (nest || !slicy E n e)
   | .struct _=>(E.flds t).all (okTy E nest n)
   | .array _ _ e=>(E.D e).isSome && okTy E nest n e
   | _=>false
def spotV:Value->Prop
 | .slice (some a) _ _=>a.spot=none
 | _=>True
theorem YB{α:Type}{Q:Nat->α->Prop}:∀n:Nat,(∀i,i<n->∃x,Q i x)->∃xs:List α,xs.length=n/\∀i (h:i<xs.length),Q i xs[i]
 | 0,_=>⟨[],rfl,λi h=>by simp at h⟩
 | n+1,h=>by
  obtain⟨xs,h1,h2⟩:=YB (Q:=Q) n λi hi=>h i (by omega)
  obtain⟨x,hx⟩:=h n (by omega)
  refine⟨xs++[x],by simp[h1],λi hi=>?_⟩
  by_cases hi':i<xs.length
  ·rw[List.getElem_append_left hi'];exact h2 i hi'
  ·have:i=n:=by simp at hi;omega
   subst this;rw[List.getElem_append_right (by omega)]
   simpa[h1] using hx
def zBs{α:Type}:List Nat->List α->List (List α)
 | [],_=>[]
 | n :: ns,cs=>cs.take n :: zBs ns (cs.drop n)
theorem zCd{α:Type}:∀(ns:List Nat) (cs:List α),(zBs ns cs).length=ns.length
 | [],_=>rfl
 | n :: ns,cs=>by simp[zBs,zCd ns]
theorem Qn{α:Type}:∀(ns:List Nat) (cs:List α),cs.length=ns.sum->(zBs ns cs).flatten=cs
 | [],cs,h=>by simp at h;subst h;rfl
 | n :: ns,cs,h=>by simp only[zBs,List.flatten_cons];rw[Qn ns (cs.drop n) (by simp at h ⊢;omega),List.take_append_drop]
theorem zDM{α:Type}:∀(ns:List Nat) (cs:List α),cs.length=ns.sum->(zBs ns cs).map (·.length)=ns
 | [],cs,_=>rfl
 | n :: ns,cs,h=>by
  simp only[zBs,List.map_cons,List.length_take];rw[zDM ns (cs.drop n) (by simp at h ⊢;omega)]
  congr 1;simp at h;omega
theorem zGE{α:Type}:∀(ns:List Nat) (cs:List α) (i:Nat) (h:i<(zBs ns cs).length),(zBs ns cs)[i]=(cs.drop (ns.take i).sum).take (ns[i]'(by rw[zCd] at h;exact h))
 | [],cs,i,h=>by simp[zBs] at h
 | n :: ns,cs,0,h=>by simp[zBs]
 | n :: ns,cs,i+1,h=>by
  simp only[zBs,List.getElem_cons_succ];rw[zGE ns (cs.drop n) i (by simpa[zBs] using h)]
  simp[List.drop_drop,Nat.add_comm]
section
variable{P:Program}{E:Env}{w:World}{base:Nat}{spare:Nat->Bool}{held:Bool}{H:Type}{enc:TypeId×Value->H}
theorem zHP(hD:DOK P E){t:TypeId}{td:TD}(h:E.D t=some td):P.cellsOf t=td.size:=by obtain⟨i,z,hi,hs,_⟩:=(hD t td h).info;unfold Program.cellsOf;rw[hi];exact hs
theorem cell_lt{a:Addr}{u:Value}(h:w.cell? a=some u):a.block<w.heap.size:=by
 unfold World.cell? at h;cases ho:w.heap[a.block]? with
 | none=>rw[ho] at h;simp at h
 | some o=>exact(Array.getElem?_eq_some_iff.1 ho).1
theorem trod_float{k:FloatKind}{t:TypeId}{fuel:Nat}{cs:List Value}{x:DataW H×List MemPlace}(ht:P.underlying t=some (.float k))(h:DataW.trod enc P w base spare held fuel t cs=some x):∃n,cs=[.float k n]/\(Lit.float k n).wf=true:=by
 cases fuel with
 | zero=>simp[DataW.trod] at h
 | succ n =>
  unfold DataW.trod at h;rw[ht] at h;split at h <;> simp_all
theorem trod_sound(hD:DOK P E)(nest:Bool)(hsp:nest=true->∀a u,w.cell? a=some u->spotV u):∀(n fuel:Nat) (t:TypeId) (cs:List Value) (d:DataW H×List MemPlace),okTy E nest n t=true ->
  DataW.trod enc P w base spare held fuel t cs=some d->(slicy E n t=true->∀u∈cs,spotV u)->∃x,RD E.L (λb=>b<w.heap.size) w x cs/\DT E n t x:=by
 intro n;induction n with
 | zero=>intro fuel t cs d hok;simp[okTy] at hok
 | succ n ih =>
  intro fuel t cs d hok h hs;unfold okTy at hok;unfold DT;unfold slicy at hs;cases hDt:E.D t with
  | none=>rw[hDt] at hok;simp at hok
  | some td =>
   rw[hDt] at hok hs;simp only at hok hs ⊢;have ht:=hD t td hDt;have hdesc:=ht.desc;have hcell:=zHP hD hDt;unfold Dsc at hdesc;cases hk:td.k with
   | int k =>
    rw[hk] at hdesc;obtain⟨m,rfl,_,hwf⟩:=DataW.trod_int hdesc h;simp[Lit.wf] at hwf;exact⟨.int k m,.int _ _,m,rfl,hwf.1,hwf.2⟩
   | bool =>
    rw[hk] at hdesc;obtain⟨b,rfl,_⟩:=DataW.trod_bool hdesc h;exact⟨.bool b,.bool _,b,rfl⟩
   | flt k =>
    rw[hk] at hdesc;obtain⟨m,rfl,hwf⟩:=trod_float hdesc h;exact⟨.flt k m,.flt _ _,m,rfl,hwf⟩
   | str =>
    rw[hk] at hdesc;obtain⟨s,rfl,_⟩:=DataW.trod_string hdesc h;exact⟨.str s,.str _,s,rfl⟩
   | slice e =>
    rw[hk] at hdesc hok hs;simp only[Bool.and_eq_true] at hok hs ⊢;obtain⟨⟨hed0,hoke⟩,hnest⟩:=hok;obtain⟨ed,hed,hpos⟩:∃ed,E.D e=some ed/\0<ed.size:=by
     cases hq:E.D e with
     | none=>rw[hq] at hed0;simp at hed0
     | some ed=>rw[hq] at hed0;exact⟨ed,rfl,by simpa using hed0⟩
    have hce:=zHP hD hed;rcases DataW.trod_slice hdesc h with ⟨rfl,_⟩ | ⟨a,len,cap,elems,rest,m,_,rfl,_,_,hlc,_,hel,hels,_,_⟩
    ·exact⟨.sl ed.size [],.sl _ [] none 0 0 [] rfl (Nat.le_refl 0) rfl (λi h=>by simp at h) (by simp) (by simp),ed,[],hed,rfl,by simp⟩
    ·have hspa:a.spot=none:=hs trivial (.slice (some a) len cap) (by simp)
     rw[hce] at hels;have hels:∀i,i<len->∃c:List Value,(∃x,RD E.L (λb=>b<w.heap.size) w x c/\DT E n e x)/\c.length=ed.size/\∀j,j<ed.size->w.cell? ((a.add (i * ed.size)).add j)=c[j]?:=by
      intro i hi;have hb:=hels i hi;rw[List.getElem?_eq_getElem (by omega)] at hb
      obtain⟨c,hc1,hc2⟩:=Option.bind_eq_some_iff.1 hb;obtain⟨_,hlen,hcells⟩:=World.cells?_some hc1;refine⟨c,ih m e c _ hoke hc2 ?_,hlen,hcells⟩;intro hsl u hu;rw[hsl] at hnest;simp at hnest;obtain⟨j,hj⟩:=List.mem_iff_getElem?.1 hu;have hjl:j<ed.size:=by rw[<-hlen];exact(List.getElem?_eq_some_iff.1 hj).1
      exact hsp hnest _ u ((hcells j hjl).trans hj)
     obtain⟨css,hcl,hcss⟩:=YB len hels;obtain⟨xs,hxl,hxs⟩:=YB (Q:=λi x=>∀h:i<css.length,RD E.L (λb=>b<w.heap.size) w x css[i]/\DT E n e x) len λi hi=>by
      have hi':i<css.length:=by omega
      obtain⟨x,hx⟩:=(hcss i hi').1;exact⟨x,λ_=>hx⟩
     have hz:∀c∈css,c.length=ed.size:=by intro c hc;obtain⟨i,hi,rfl⟩:=List.mem_iff_getElem.1 hc;exact(hcss i hi).2.1
     refine⟨.sl ed.size xs,.sl _ xs (some a) len cap css hxl hlc (by omega) (λi h1 h2=>(hxs i h1 h2).1) hz λh0=>⟨a,rfl,hspa,?_,?_⟩,ed,xs,hed,rfl,?_⟩
     ·have hi0:0<css.length:=by omega
      have h00:=(hcss 0 hi0).2.2 0 hpos;have hl0:=(hcss 0 hi0).2.1;rw[List.getElem?_eq_getElem (by omega)] at h00
      have:=cell_lt h00
      rwa [JU,JU] at this
     ·intro j u hj;have hjl:j<css.length * ed.size:=by
       have:=(List.getElem?_eq_some_iff.1 hj).1
       rwa [YP hz] at this
      have hi:j / ed.size<css.length:=Nat.div_lt_of_lt_mul (by rwa [Nat.mul_comm] at hjl)
      have hm':j % ed.size<ed.size:=Nat.mod_lt _ hpos;have e1:=JH css hz (j / ed.size) hi (j % ed.size) hm';have e2:j / ed.size * ed.size+j % ed.size=j:=by rw[Nat.mul_comm];exact Nat.div_add_mod j ed.size
      rw[e2] at e1;have:=(hcss _ hi).2.2 (j % ed.size) hm';rw[zCt hspa,e2] at this;rw[this,<-e1,hj]
     ·intro y hy;obtain⟨i,hi,rfl⟩:=List.mem_iff_getElem.1 hy;exact(hxs i hi (by omega)).2
   | struct tag =>
    rw[hk] at hdesc hok hs;simp only at hok hs ⊢;obtain⟨fs,hu,hty,hfl,hoff⟩:=hdesc;have hsz:=ht.size;rw[hk] at hsz;simp only at hsz;obtain⟨ys,m,_,_,hlen,hyl,hys⟩:=DataW.trod_struct hu h;rw[hcell,hsz] at hlen;have hel:∀i,i<(E.L tag).length->∃x,∀hi:i<(zBs (E.L tag) cs).length,RD E.L (λb=>b<w.heap.size) w x (zBs (E.L tag) cs)[i]/\∀u,(E.flds t)[i]? = some u->DT E n u x:=by
     intro i hi;have hfi:i<fs.size:=by omega
     have hf:fs[i]? = some fs[i]:=Array.getElem?_eq_getElem hfi;obtain⟨ho,j,hj,hLj,_⟩:=hoff i fs[i] hf;have hb:=hys i fs[i] hf;rw[List.getElem?_eq_getElem (by omega)] at hb
     have hlf:fs.toList[i]? = some fs[i]:=by simp[hfi]
     have hfty:(E.flds t)[i]? = some fs[i].type:=by rw[<-hty,List.getElem?_map,hlf];rfl
     have hmem:fs[i].type∈E.flds t:=List.mem_iff_getElem?.2 ⟨i,hfty⟩;have hcf:P.cellsOf fs[i].type=j.size:=by unfold Program.cellsOf;rw[hj];rfl
     have hpiece:(cs.drop fs[i].offset).take (P.cellsOf fs[i].type)=(cs.drop ((E.L tag).take i).sum).take ((E.L tag)[i]):=by
      rw[ho,hcf];rw[List.getElem?_eq_getElem hi] at hLj;injection hLj with hLj
      rw[hLj]
     rw[hpiece] at hb;have hokf:=List.all_eq_true.1 hok _ hmem;obtain⟨x,hx1,hx2⟩:=ih m fs[i].type _ _ hokf hb (λhsl u hu=>hs (List.any_eq_true.2 ⟨_,hmem,hsl⟩) u (List.mem_of_mem_drop (List.mem_of_mem_take hu)))
     refine⟨x,λhi'=>⟨?_,λu hu'=>?_⟩⟩
     ·rw[zGE];exact hx1
     ·rw[hfty] at hu';injection hu' with hu'
      exact hu' ▸ hx2
    obtain⟨xs,hxl,hxs⟩:=YB (E.L tag).length hel;have hcl:=zCd (E.L tag) cs;have hfl':(E.flds t).length=(E.L tag).length:=by rw[<-hty];simp[hfl]
    refine⟨.agg tag xs,?_,xs,rfl,by omega,λi u y h1 h2=>?_⟩
    ·have:=RD.agg (L:=E.L) (S:=λb=>b<w.heap.size) (w:=w) tag xs (zBs (E.L tag) cs) (by omega) (λi h1 h2=>(hxs i h1 h2).1) (zDM _ _ hlen)
     rwa [Qn _ _ hlen] at this
    ·have hi:i<xs.length:=(List.getElem?_eq_some_iff.1 h2).1;rw[List.getElem?_eq_getElem hi] at h2;injection h2 with h2
     subst h2;exact(hxs i hi (by omega)).2 u h1
   | array tag m e =>
    rw[hk] at hdesc hok hs;simp only[Bool.and_eq_true] at hok hs ⊢;obtain⟨hu,j,hj,hL⟩:=hdesc;obtain⟨hed,hoke⟩:=hok;have hsz:=ht.size;rw[hk] at hsz;simp only at hsz;have hce:P.cellsOf e=j.size:=by unfold Program.cellsOf;rw[hj];rfl
    obtain⟨ys,k,_,_,hlen,hyl,hys⟩:=DataW.trod_array hu h;rw[hcell,hsz] at hlen;rw[hce] at hys;have hLl:(E.L tag).length=m:=by rw[hL];simp
    have hel:∀i,i<m->∃x,∀hi:i<(zBs (E.L tag) cs).length,RD E.L (λb=>b<w.heap.size) w x (zBs (E.L tag) cs)[i]/\DT E n e x:=by
     intro i hi;have hb:=hys i hi;rw[List.getElem?_eq_getElem (by omega)] at hb
     obtain⟨x,hx1,hx2⟩:=ih k e _ _ hoke hb (λhsl u hu=>hs hsl u (List.mem_of_mem_drop (List.mem_of_mem_take hu)))
     refine⟨x,λhi'=>⟨?_,hx2⟩⟩
     rw[zGE];have e1:((E.L tag).take i).sum=i * j.size:=by rw[hL,List.take_replicate,List.sum_replicate_nat,Nat.min_eq_left (Nat.le_of_lt hi)]
     have e2:(E.L tag)[i]'(by omega)=j.size:=by simp[hL]
     rw[e1,e2];exact hx1
    obtain⟨xs,hxl,hxs⟩:=YB m hel;have hcl:=zCd (E.L tag) cs;refine⟨.agg tag xs,?_,xs,rfl,hxl,λy hy=>?_⟩
    ·have:=RD.agg (L:=E.L) (S:=λb=>b<w.heap.size) (w:=w) tag xs (zBs (E.L tag) cs) (by omega) (λi h1 h2=>(hxs i h1 h2).1) (zDM _ _ hlen)
     rwa [Qn _ _ hlen] at this
    ·obtain⟨i,hi,rfl⟩:=List.mem_iff_getElem.1 hy;exact(hxs i hi (by omega)).2
   | _=>rw[hk] at hok;simp at hok
end
end Go.Am
namespace Go.Am
open Go.Proofs
open Go Go.RowKit Go.ChangeShapes Go.WideShapes Go.WideElems
section
variable{H:Type}{enc:TypeId×Value->H}{P:Program}
theorem zA5(hl:laidOutB P=true){W W':World}{sp':Nat->Bool}:∀{ts:List TypeId} {vs:List Value} {ds:List (DataW H)} {ps:List MemPlace},
  (ts.all λt=>P.readableRec t && decide (t<P.types.size))=true->DataW.TrodAll enc P W 0 (λ_=>true) true ts vs ds ps->(∀p∈ps,W.sameAt W' p)->(∀p∈ps,sp' p.block=true)->DataW.TrodAll enc P W' 0 sp' true ts vs ds ps
 | [],_,_,_,_,h,_,_=>by
  obtain⟨rfl,rfl,rfl⟩:=trodAll_nil h;exact trodAll_mk0
 | t :: ts,_,_,_,ht,h,hs,hp=>by
  obtain⟨v,vs1,d,ds1,a,c,rfl,rfl,rfl,h1,h2⟩:=trodAll_cons h;simp only[List.all_cons,Bool.and_eq_true,decide_eq_true_eq] at ht;exact⟨a,c,Trod_stays hl ht.1.1 ht.1.2 h1 (λx hx=>hs x (List.mem_append_left _ hx)) (λx hx=>hp x (List.mem_append_left _ hx)),
   zA5 hl ht.2 h2 (λx hx=>hs x (List.mem_append_right _ hx)) (λx hx=>hp x (List.mem_append_right _ hx)),rfl⟩
theorem post_true(hl:laidOutB P=true){t:TypeId}(hbool:P.underlying t=some .bool){f:Func}{s:ChangeSpec}{apart fresh handsOn again:Bool}{W W':World}{args:Array Value}{ds gs:List (DataW H)}{before:List MemPlace}
  (hpar:(f.params.toList.all λt=>P.readableRec t && decide (t<P.types.size))=true) (hvars:s.vars=[]) (hr:f.resultTypes=#[t])
  (hW:DataW.Whole enc P f.params.toList s.vars apart W args.toList ds gs before)
  (hfn:s.fn H (ds++gs)={ results:=[.lit (.bool true)],args:=ds,vars:=[] }) (hB:Below W.heap.size W W') :
  s.post enc P f apart fresh handsOn again W args (.bool true) W':=by
 have hW0:=hW;have hlt:=hW.lt;obtain⟨p,q,hA,hV,rfl,hfz,hnd⟩:=hW;rw[hvars] at hV;obtain⟨rfl,rfl⟩:=trodVars_none hV;have hrl:(Value.bool true).resultList f.resultTypes.size=[.bool true]:=by rw[hr];rfl
 have hres:∀(b:Nat) (sp:Nat->Bool) (hd:Bool),DataW.TrodAll enc P W' b sp hd f.resultTypes.toList ((Value.bool true).resultList f.resultTypes.size) [.lit (.bool true)] []:=λb sp hd=>by rw[hrl,hr];exact trodAll_mk1 (shut_bool hbool _)
 have hargs:∀sp:Nat->Bool,(∀x∈p,sp x.block=true)->DataW.TrodAll enc P W' 0 sp true f.params.toList args.toList ds p:=λsp hs =>
  zA5 hl hpar hA (λx hx=>hB.same (hlt x (by simp[hx]))) hs
 refine⟨ds,[],p++[],[],p,[],hW0,?_,?_,?_,hB.frame _,λ_=>⟨?_,.lit (.bool true) :: ds,[],p++[],⟨p,[],?_,?_,rfl,?_,hnd⟩,λx hx _=>hx⟩⟩
 ·rw[hfn];exact hres _ _ _
 ·rw[hfn];exact hargs _ (λx hx=>by simpa using hlt x (by simp[hx]))
 ·rw[hfn,hvars];rfl
 ·intro j t' r h1 h2;rw[hrl] at h2;rw[hr] at h1
  match j,h1,h2 with
  | 0,h1,h2 =>
   simp at h1 h2;subst h1;subst h2;exact okWide_bool_mk hbool _
 ·exact trodAll_append (hargs _ (λ_ _=>rfl)) (hres 0 _ true)
 ·rw[hvars];rfl
 ·intro b off hp;rw[hB.frozen (p:=⟨b,off,none⟩) (hlt _ hp)];exact hfz b off hp
theorem zGu{W:World}{b:Nat}{t:TypeId}{v:Value}(h:Cell.okWide P W .any b t v):spotV v:=by
 cases v with
 | slice a n c =>
  cases a with
  | none=>trivial
  | some a =>
   unfold Cell.okWide at h;split at h
   all_goals first
    | (rename_i e;cases e;done)
    | (unfold Cell.ok at h
       split at h
       all_goals first
         | exact h.elim
         | (rename_i e;cases e;done)
         | (rename_i e;cases e;exact h.2.2.2.1))
    | skip
 | _=>trivial
theorem Qi{W:World}{b:Nat}{t:TypeId}{v:Value}(h:Cell.okWide P W .any b t v):Jx v=false:=by
 cases v with
 | agg cs =>
  unfold Cell.okWide at h;split at h
  all_goals first
   | (rename_i e;cases e;done)
   | (unfold Cell.ok at h
      split at h
      all_goals first
        | exact h.elim
        | (rename_i e;cases e;done))
   | skip
 | _=>rfl
theorem spots{W:World}{b:Nat}{t:TypeId}{v:Value}(h:Value.okWide P W .any b t v):∀u∈vcs v,spotV u:=by
 have key:∀cs:Array Value,v=.agg cs->Row.okWide P W .any b t cs->∀u∈vcs v,spotV u:=by
  rintro cs rfl ⟨ts,_,_,hc⟩ u hu;obtain⟨i,hi⟩:=List.mem_iff_getElem?.1 (show u∈cs.toList from hu)
  obtain⟨t',_,h'⟩:=hc i u (by simpa using hi)
  exact zGu h'
 unfold Value.okWide at h;split at h
 ·obtain⟨cs,e,_,h⟩:=h;exact key cs e h
 ·obtain⟨cs,e,_,h⟩:=h;exact key cs e h
 ·intro u hu;have ha:=Qi h;have:u=v:=by cases v <;> first | (simp[Jx] at ha;done) | simpa[vcs,Value.cells] using hu
  exact this ▸ zGu h
end
section
variable{H:Type}{enc:TypeId×Value->H}{P:Program}{E:Env}
theorem zJc(hD:DOK P E){W:World}{base:Nat}{t:TypeId}{v:Value}{d:DataW H}{ps:List MemPlace}(n:Nat)(hok:okTy E false n t=true)(hval:Value.okWide P W .any base t v)(h:DataW.Trod enc P W 0 (λ_=>true) true t v d ps) :
  ∃x,RV E.L (λb=>b<W.heap.size) W x v/\DT E n t x:=by
 obtain⟨fuel,hf⟩:=h;obtain⟨x,hx,hdt⟩:=trod_sound hD false (λh=>by cases h) n fuel t _ _ hok hf (λ_=>spots hval)
 have hdt0:=hdt;cases n with
 | zero=>exact hdt.elim
 | succ n =>
  unfold DT at hdt;cases hDt:E.D t with
  | none=>rw[hDt] at hdt;exact hdt.elim
  | some td =>
   rw[hDt] at hdt;simp only at hdt;have hdesc:=(hD t td hDt).desc;unfold Dsc at hdesc;unfold Value.okWide at hval;refine⟨x,?_,hdt0⟩;cases hk:td.k with
   | int k =>
    rw[hk] at hdt hdesc;obtain⟨m,rfl,_⟩:=hdt;rw[hdesc] at hval;exact RV.of rfl hx (Qi hval)
   | bool =>
    rw[hk] at hdt hdesc;obtain⟨m,rfl⟩:=hdt;rw[hdesc] at hval;exact RV.of rfl hx (Qi hval)
   | flt k =>
    rw[hk] at hdt hdesc;obtain⟨m,rfl,_⟩:=hdt;rw[hdesc] at hval;exact RV.of rfl hx (Qi hval)
   | str =>
    rw[hk] at hdt hdesc;obtain⟨m,rfl⟩:=hdt;rw[hdesc] at hval;exact RV.of rfl hx (Qi hval)
   | slice e =>
    rw[hk] at hdt hdesc;obtain⟨ed,xs,_,rfl,_⟩:=hdt;rw[hdesc] at hval;exact RV.of rfl hx (Qi hval)
   | struct tag =>
    rw[hk] at hdt hdesc;obtain⟨xs,rfl,_⟩:=hdt;obtain⟨fs,hu,_⟩:=hdesc;rw[hu] at hval;obtain⟨cs,rfl,_⟩:=hval;exact RV.of rfl hx rfl
   | array tag m e =>
    rw[hk] at hdt hdesc;obtain⟨xs,rfl,_⟩:=hdt;obtain⟨hu,_⟩:=hdesc;rw[hu] at hval;obtain⟨cs,rfl,_⟩:=hval;exact RV.of rfl hx rfl
   | _=>rw[hk] at hdt;exact hdt.elim
end
end Go.Am
