/- The abstract machine, the contracts of the functions that are walked by hand, and the examples of the document. Part 6. -/
import Derived.Test.YtojkhldombndpaaGreatDoorD5
set_option linter.all false
open Array renaming getElem?_setIfInBounds_ne->Aa,getElem?_eq_some_iff->Ab,getElem?_setIfInBounds_self_of_lt->Ac,getD_eq_getD_getElem?->Ae
open List renaming length_map->Ad,getElem_mem->Af,replicate->Ah,getElem?_append_left->Ak,getElem?_replicate->Al,getElem?_cons_succ->An,length_eq_one_iff->Ao,getElem_cons_zero->Ap,getElem_map->As,length->Au,length_replicate->Av,getElem?_eq_some_iff->AA,length_eq_zero_iff->AE,mem_map->AH,size_toArray->AM,mergeSort_of_pairwise->AR,getElem?_append_right->AS,getElem_append_right->AT,mem_cons->AU,getElem?_eq_getElem->AW,getElem?_cons_zero->AX,map_map->AZ,getElem?_toArray->A4,range->A9,take_prefix->Bb,take_length->Bc,length_cons->Bd,ext_getElem->Be,cons_append->Bf,range_zero->Bj,range_succ->Bk,nil_append->Bl,length_nil->Bm,drop_zero->Bn
open Int renaming toNat->Ag,toNat_natCast->Bg
open Option renaming getD->Ai,getD_some->Aj,isSome->Aq,none->Aw
open Go.Value renaming int->Ar
open Option.some renaming injEq->At,inj->Az
open Go.Proofs renaming enters_of->Ax
open Go.Act renaming eval->Ay,put->AC
open Nat renaming le_refl->AB,zero_le->AO,zero_add->A3,sub_self->Br
open Go.IntKind renaming wrap->AD,i64->AJ
open Go.Sort renaming alloc_eq_grow->AF,grow_grow->A6
open Prod renaming mk->AG,fst->AQ,snd->A5
open Go.Sem renaming run_bind->AI,run_pure->Bq
open Go.Value.slice renaming injEq->AK
open Go.Proofs.YtojkhldombndpaaGreatDoor.Rows renaming laid_internal_strconv_uint64pow10->AL,laid_nacelle_site_steps->AN
open Go.Addr.mk renaming injEq->AP
open Go.Instr renaming loadAt->AY
open Go.World renaming cell?->A0,size_alloc->Ba
open Go.Deferred renaming ofValue->A7
open Go.Result renaming andThen_ok->A8
open Go.Region renaming wanted->Bh
open Go.Oper renaming semAt_some->Bi,upon->Bu
open Go.Proofs.AnyQ renaming slices_SortFunc_total->Bo
open Go.Proofs.AnyF renaming slices_SortFunc_none->Bp
open List.IsPrefix renaming trans->Bs
open Go.Code renaming region->Bt
namespace Go.Am
open Go.Proofs
open Go Go.RowKit
theorem body200:∃i0 s01 s02 s03 a1 a2 a3 ats2 i1 i2 s1 s2 i3 s3 s4 af1 af2,k200r=.seq (.seq (.region i0 #[{ dst:=some 21,op:=.load 81 (.tmp 4),type:=81,pos:=s01,after:=a1,guard:=none },
   { dst:=some 22,op:=.call { callee:=.builtin .len,args:=#[.tmp 21],argTypes:=#[81] },type:=3,pos:=s02,after:=a2,guard:=none },
   { dst:=some 23,op:=.call { callee:=.value (.func 241),args:=#[.tmp 22],argTypes:=ats2 },type:=359,pos:=s03,after:=a3,guard:=none }] false)
   (.block 2 (.rangeFunc (.tmp 23) #[24,25] (asgC i1 i2 8 9 24 25 3 s1 s2) k200b)))
  (.seq (.region i3 #[{ dst:=some 46,op:=.load 95 (.tmp 7),type:=95,pos:=s3,after:=af1,guard:=none },{ dst:=some 6,op:=.assign (.tmp 46),type:=95,pos:=s4,after:=af2,guard:=none }] false) .ret) :=
 ⟨6,zAV (sq1 (sq1 k200z)) 0,zAV (sq1 (sq1 k200z)) 1,zAV (sq1 (sq1 k200z)) 2,zGc (sq1 (sq1 k200z)) 0,zGc (sq1 (sq1 k200z)) 1,zGc (sq1 (sq1 k200z)) 2,#[3],7,8,
  zAV (sq1 (rfA (bk1 (sq2 (sq1 k200z))))) 0,zAV (sq2 (rfA (bk1 (sq2 (sq1 k200z))))) 0,10,zAV (sq1 (sq2 k200z)) 0,zAV (sq1 (sq2 k200z)) 1,zGc (sq1 (sq2 k200z)) 0,zGc (sq1 (sq2 k200z)) 1,by kernel_rfl⟩
theorem reg6_wp{P:Program}{a:Act}{w:World}{i:Nat}{s1 s2 s3:String}{a1 a2 a3:Array Edge}{ats2:Array TypeId}{pa:Option Addr}{n c:Nat}{R:Ending->World->Prop}{Q:Exit->Act->World->Prop}
  (hu:P.underlying 81=some (.slice 141)) (hrun:(AY 81 (a.eval (.tmp 4))).run P w=.ok (.slice pa n c) w) (hsz:a.tmps.size=47) (eg:∀args w,(callFunc 241 args).run P w=.ok (.enter 241 args) w) (hc:Calls P 241 #[.int .i64 n] w R)
  (hR:∀e w',R e w'->∃u,e=.returned u/\Q .normal (((a.put (some 21) (.slice pa n c)).put (some 22) (.int .i64 n)).put (some 23) u) w') :
  (Bt i #[{ dst:=some 21,op:=.load 81 (.tmp 4),type:=81,pos:=s1,after:=a1,guard:=none },
   { dst:=some 22,op:=.call { callee:=.builtin .len,args:=#[.tmp 21],argTypes:=#[81] },type:=3,pos:=s2,after:=a2,guard:=none },
   { dst:=some 23,op:=.call { callee:=.value (.func 241),args:=#[.tmp 22],argTypes:=ats2 },type:=359,pos:=s3,after:=a3,guard:=none }] false).wp P Q a w:=by
 have e1:(a.put (some 21) (.slice pa n c)).eval (.tmp 21)=.slice pa n c:=by simp only[Ay,AC,Ae,Ac (show 21<a.tmps.size by omega),Aj]
 have e2:((a.put (some 21) (.slice pa n c)).put (some 22) (.int .i64 n)).eval (.tmp 22)=.int .i64 n:=by simp only[Ay,AC,Ae];rw[Ac (by simp;omega),Aj]
 refine wp_region ?_;simp only[AM,Bd,Bm,A3,Bk,Bj,Bl,Bf,wpOps,A4,AX,An,Bh,if_true];refine .inl ?_;unfold Oper.wp;simp only[execOp,AI,hrun,A8,Bq,Bu];refine .inl ?_;have hrun2:(execOp (a.put (some 21) (.slice pa n c)).eval { dst:=some 22,op:=.call { callee:=.builtin .len,args:=#[.tmp 21],argTypes:=#[81] },type:=3,pos:=s2,after:=a2,guard:=none }).run P w=.ok (.value (.int .i64 n)) w:=by simp[execOp,resolve,invoke,e1,builtin,Builtin.len_,run_underlying hu,goInt]
 simp only[execOp,AI] at hrun2;rw[hrun2];refine .inl ?_;have hev:∀x:Act,x.eval (.func 241)=.func (.func 241) #[] #[]:=λ_=>rfl
 have hrun3:(execOp ((a.put (some 21) (.slice pa n c)).put (some 22) (.int .i64 n)).eval { dst:=some 23,op:=.call { callee:=.value (.func 241),args:=#[.tmp 22],argTypes:=ats2 },type:=359,pos:=s3,after:=a3,guard:=none }).run P w=.ok (.enter 241 #[.int .i64 n]) w:=by simp[execOp,resolve,A7,invoke,hev,e2,eg]
 simp only[execOp,AI] at hrun3;rw[hrun3];show Calls P 241 _ _ _;refine hc.mono λe w' h=>?_
 obtain⟨u,rfl,hq⟩:=hR e w' h;exact hq
theorem TmOK.set{L:Nat->List Nat}{S:Nat->Prop}{φ:Nat->Option Nat}{w:World}{tm:List AV}{a:Act}(h:TmOK L S φ w tm a){t:Nat}{v:AV}{u:Value}(hu:a.tmps[t]? = some u)(hv:RAV L S φ w v u):TmOK L S φ w (tm.set t v) a:=by
 intro i x hx;rw[List.getElem?_set] at hx;split at hx
 ·rename_i e;subst e;split at hx
  ·injection hx with hx;subst hx
   exact⟨u,hu,hv⟩
  ·cases hx
 ·exact h i x hx
theorem TmOK.undef{L:Nat->List Nat}{S:Nat->Prop}{φ:Nat->Option Nat}{w:World}{a:Act}{n:Nat}(hn:a.tmps.size=n):TmOK L S φ w (Ah n .undef) a:=by
 intro i x hx;rw[Al] at hx;split at hx
 ·rename_i hi;injection hx with hx
  subst hx;exact⟨a.tmps[i]'(by rw[hn];exact hi),by simp[hn,hi],trivial⟩
 ·cases hx
structure Mem(w:Wk)(ps:List Pt)(sec:Int)(st:Pt)(N:Nat)(v:Value)(g cap:Nat)(rs:List Nat)(S0:Nat->Prop)(wk wd:Array Value)(pa:Option Addr)(c k:Nat)(V:World):Prop where
 glob:GlobOK EE S0 V
 lt0:∀b,S0 b->b<N
 rw':RD EE.L S0 V (eWk w) wk.toList
 rp:RD EE.L S0 V (.sl 2 (ps.map ePt)) [.slice pa ps.length c]
 rd:RD EE.L S0 V (eWd sec st) wd.toList
 h0:V.heap[N]? = some (.cells wk 59 (0,0))
 h1:V.heap[N+1]? = some (.cells #[.slice pa ps.length c] 81 (0,0))
 h2:V.heap[N+1+1]? = some (.cells wd 251 (0,0))
 h3:V.heap[N+1+1+1]? = some (.cells #[v] 95 (0,0))
 hv:v=.slice (some ⟨g,0,none⟩) ps.length cap
 hg:N+1+1+1+1<=g
 hcap:ps.length<=cap
 out:∃cs t,V.heap[g]? = some (.cells cs t (0,0))/\rs.map (zDS ps.length) <+: cs.toList/\cs.size=cap
 len:rs.length=ps.length
 nodup:rs.Nodup
 ge:∀b∈rs,N+1+1+1+1<=b/\b≠g
 rows:∀j (h:j<rs.length),∃cs t,V.heap[rs[j]]? = some (.cells cs t (0,0))/\(zAd w ps sec st k j).map (Ar .i64) <+: cs.toList
structure Tms(N:Nat)(a:Act):Prop where
 dfr:a.defers=[]
 size:a.tmps.size=47
 t3:a.tmps[3]? = some (.pointer (some ⟨N,0,none⟩))
 t4:a.tmps[4]? = some (.pointer (some ⟨N+1,0,none⟩))
 t5:a.tmps[5]? = some (.pointer (some ⟨N+1+1,0,none⟩))
 t7:a.tmps[7]? = some (.pointer (some ⟨N+1+1+1,0,none⟩))
def phi200(N g b:Nat):Nat->Option Nat:=λs=>if s=7 then some (N+1+1+1) else if s=19 then some g else if s=20 then some b else none
theorem qf{w:World}{b t:Nat}{cs:Array Value}(h:w.heap[b]? = some (.cells cs t (0,0))):∀(j:Nat) (u:Value),cs.toList[j]? = some u->w.cell? ((⟨b,0,none⟩:Addr).add j)=some u:=by intro j u hu;rw[jr rfl];unfold A0;simp only[h,A3];simpa using hu
theorem zFq{j n b:Nat}{row:List DV}{ob:OB}(h:slot (hp200 j n row) b=some ob) :
  (b=7/\ob=⟨true,.ac 1 [.own 19 0 n 1]⟩)\/(b=19/\ob=⟨true,.ac 1 (Ah j .undef++[.own 20 0 n 1])⟩)\/(b=20/\ob=⟨false,.dc 1 row⟩):=by
 have e:hp200 j n row=Ah 7 none++some ⟨true,.ac 1 [.own 19 0 n 1]⟩ :: (Ah 11 none++some ⟨true,.ac 1 (Ah j .undef++[.own 20 0 n 1])⟩ :: some ⟨false,.dc 1 row⟩ :: Ah 26 none):=by kernel_rfl
 rw[e] at h;unfold slot at h;by_cases h7:b<7
 ·rw[Ak (by simpa using h7),Al,if_pos h7] at h;simp at h
 ·rw[AS (by simp;omega),Av] at h
  by_cases e7:b=7
  ·subst e7;simp at h;exact .inl ⟨rfl,h.symm⟩
  ·obtain⟨m,rfl⟩:∃m,b=8+m:=⟨b - 8,by omega⟩
   rw[show 8+m - 7=m+1 by omega,An] at h
   by_cases h11:m<11
   ·rw[Ak (by simpa using h11),Al,if_pos h11] at h;simp at h
   ·rw[AS (by simp;omega),Av] at h
    obtain⟨q,rfl⟩:∃q,m=11+q:=⟨m - 11,by omega⟩
    rw[show 11+q - 11=q by omega] at h
    match q with
    | 0=>simp at h;exact .inr (.inl ⟨rfl,h.symm⟩)
    | 1=>simp at h;exact .inr (.inr ⟨rfl,h.symm⟩)
    | q+2 =>
     rw[An,An,Al] at h;by_cases hq:q<26
     ·rw[if_pos hq] at h;simp at h
     ·rw[if_neg hq] at h;simp at h
theorem round_rel{w:Wk}{ps:List Pt}{sec:Int}{st:Pt}{N g cap c k:Nat}{v:Value}{rs:List Nat}{S0 S:Nat->Prop}{wk wd:Array Value}{pa:Option Addr}{V:World}{a:Act}(m:Mem w ps sec st N v g cap rs S0 wk wd pa c k V)(t:Tms N a)
  (hN:N<=V.heap.size) {j i:Nat} (hj:j<rs.length) (t8:a.tmps[8]? = some (.int .i64 (j:Int))) (t9:a.tmps[9]? = some (.int .i64 (i:Int)))
  (hS:∀b,S b->b<V.heap.size) (hS0:∀b,S0 b->S b) (h0:S N) (h1:S (N+1)) (h2:S (N+1+1)) (h3:S (N+1+1+1)) (hg:S g) (hr:¬S rs[j]) :
  Rel EE N S (phi200 N g rs[j]) ⟨rd200 j i w.rule (w.d.map eI) (w.w.map eI) (ps.map ePt) sec st.x st.y,hp200 j ps.length ((zAd w ps sec st k j).map eI)⟩ a V:=by
 have hrj:=Af hj;obtain⟨cs,tt,hrow,hpre⟩:=m.rows j hj;obtain⟨co,tO,hout,hopre,hosz⟩:=m.out;have hge:=m.ge _ hrj;have hlt:rs[j]<V.heap.size:=(Ab.1 hrow).1;have ho7:N+1+1+1<V.heap.size:=(Ab.1 m.h3).1;have hog:g<V.heap.size:=(Ab.1 hout).1;have mono:∀{x:DV} {cs:List Value},RD EE.L S0 V x cs->RD EE.L S V x cs:=λh=>h.mono hS0 λ_ _=>rfl
 have hroomg:Room V g ((0+cap) * 1):=⟨co,tO,hout,by omega⟩
 have hroomr:Room V rs[j] ((0+ps.length) * 1):=by refine⟨cs,tt,hrow,?_⟩;have h:=hpre.length_le;rw[Ad,zFs] at h;have:cs.toList.length=cs.size:=rfl;omega
 have f7:phi200 N g rs[j] 7=some (N+1+1+1):=rfl;have f19:phi200 N g rs[j] 19=some g:=rfl;have f20:phi200 N g rs[j] 20=some rs[j]:=rfl;refine⟨m.glob.mono hS0 λ_ _=>rfl,?_,?_,?_,hS,hN,t.dfr⟩
 ·have e:rd200 j i w.rule (w.d.map eI) (w.w.map eI) (ps.map ePt) sec st.x st.y =
    ((((((Ah 47 AV.undef).set 3 (.d (.dp (eWk w)))).set 4 (.d (.dp (.sl 2 (ps.map ePt))))).set 5 (.d (.dp (eWd sec st)))).set 7 (.ptr 7 1 0 [])).set 8 (.d (.int .i64 j))).set 9 (.d (.int .i64 i)):=by kernel_rfl
  show TmOK EE.L S _ V _ a;rw[e];refine((((((TmOK.undef t.size).set t.t3 ?_).set t.t4 ?_).set t.t5 ?_).set t.t7 ?_).set t8 ?_).set t9 ?_
  ·exact⟨RD.dp _ _ wk.toList rfl h0 (qf m.h0) (mono m.rw') rfl,rfl⟩
  ·exact⟨RD.dp _ _ [_] rfl h1 (qf m.h1) (mono m.rp) rfl,rfl⟩
  ·exact⟨RD.dp _ _ wd.toList rfl h2 (qf m.h2) (mono m.rd) rfl,rfl⟩
  ·exact⟨RA.ptr 7 1 0 [] _ f7,rfl⟩
  ·exact⟨.int _ _,rfl⟩
  ·exact⟨.int _ _,rfl⟩
 ·intro b ob hb;rcases zFq hb with ⟨rfl,rfl⟩ | ⟨rfl,rfl⟩ | ⟨rfl,rfl⟩
  ·refine⟨_,f7,by omega,⟨#[v],95,[[v]],m.h3,rfl,λi a b=>?_,by simp,by simp⟩,by simpa using h3⟩
   match i,a with
   | 0,_ =>
    show RA _ _ _ _ (.own 19 0 ps.length 1) [v];rw[m.hv];exact RA.own 19 0 ps.length 1 g cap f19 m.hcap hroomg
  ·refine⟨_,f19,by have:=m.hg;omega,⟨co,tO,((rs.take (j+1)).map λb=>[zDS ps.length b]),hout,?_,λi a b=>?_,?_,?_⟩,by simpa using hg⟩
   ·simp;omega
   ·by_cases hij:i<j
    ·rw[List.getElem_append_left (by simpa using hij),List.getElem_replicate]
     refine RA.undef _ λu hu=>?_
     rw[As] at hu;rw[List.mem_singleton.1 hu];rfl
    ·have hij':i=j:=by simp at a;omega
     subst hij';rw[AT (by simp)]
     simp only[Av,Br,Ap,As,List.getElem_take];exact RA.own 20 0 ps.length 1 rs[i] ps.length f20 (AB _) hroomr
   ·intro c hc;obtain⟨b,_,rfl⟩:=AH.1 hc;rfl
   ·rw[flat1 (zDS ps.length)];refine Bs ?_ hopre;exact(Bb _ _).map _
  ·refine⟨_,f20,by omega,⟨cs,tt,(zAd w ps sec st k j).map λm=>[Ar .i64 m],hrow,by simp,λi a b=>?_,λc hc=>?_,by rw[flat1 (Ar .i64)];exact hpre⟩,by simpa using hr⟩
   ·simp only[As];exact .int _ _
   ·obtain⟨b,_,rfl⟩:=AH.1 hc;rfl
 ·intro b b' ob ob' cb h1 h2 h3 h4;rcases zFq h1 with ⟨rfl,_⟩ | ⟨rfl,_⟩ | ⟨rfl,_⟩ <;> rcases zFq h2 with ⟨rfl,_⟩ | ⟨rfl,_⟩ | ⟨rfl,_⟩ <;> first | rfl | (exfalso;simp only[f7,f19,f20,At] at h3 h4;have:=m.hg;omega)
end Go.Am
namespace Go.Am
open Go.Proofs
open Go Go.RowKit
section
variable{L:Nat->List Nat}{S:Nat->Prop}{φ:Nat->Option Nat}{w:World}{cb:Nat}
theorem RB.ints{l:List Int}(h:RB L S φ w (.dc 1 (l.map eI)) cb):∃(cs:Array Value) (t:TypeId),w.heap[cb]? = some (.cells cs t (0,0))/\l.map (Ar .i64) <+: cs.toList:=by
 obtain⟨cs,t,css,h1,h2,h3,h4,h5⟩:=h;refine⟨cs,t,h1,?_⟩;have:css=l.map λm=>[Ar .i64 m]:=by
  refine Be (by simpa using h2) λi a b=>?_
  have h:=h3 i (by simpa using b) a
  rw[As] at h ⊢;exact RD.int1 h
 rw[this,flat1 (Ar .i64)] at h5;exact h5
theorem flat_one{css:List (List Value)}(hz:∀c∈css,c.length=1)(i:Nat)(h:i<css.length)(x:Value)(hx:css[i]=[x]):css.flatten[i]? = some x:=by
 induction css generalizing i with
 | nil=>simp at h
 | cons c r ih =>
  have hc:=hz c (by simp)
  obtain⟨y,rfl⟩:=Ao.1 hc;cases i with
  | zero=>simp at hx;simp[hx]
  | succ i=>simpa using ih (λc hc=>hz c (by simp[hc])) i (by simpa using h) (by simpa using hx)
end
theorem round_back{N g cap n j:Nat}{v:Value}{rs:List Nat}{S:Nat->Prop}{φ:Nat->Option Nat}{V:World}{a:Act}{row:List Int}{co:Array Value}{tO:TypeId}
  (hR:Rel EE N S φ ⟨stTm 47 0 [(7,.ptr 7 1 0 [])],hp200 j n (row.map eI)⟩ a V) (ht:a.tmps[7]? = some (.pointer (some ⟨N+1+1+1,0,none⟩))) (h3:V.heap[N+1+1+1]? = some (.cells #[v] 95 (0,0)))
  (hv:v=.slice (some ⟨g,0,none⟩) n cap) (hg:V.heap[g]? = some (.cells co tO (0,0))) (hco:rs.map (zDS n) <+: co.toList) (hj:j<rs.length) (hn:0<n) :
  ∃(cs:Array Value) (t:TypeId),V.heap[rs[j]]? = some (.cells cs t (0,0))/\row.map (Ar .i64) <+: cs.toList:=by
 have ehp:hp200 j n (row.map eI)=Ah 7 none++some ⟨true,.ac 1 [.own 19 0 n 1]⟩ :: (Ah 11 none++some ⟨true,.ac 1 (Ah j .undef++[.own 20 0 n 1])⟩ :: some ⟨false,.dc 1 (row.map eI)⟩ :: Ah 26 none):=by kernel_rfl
 have s7:slot (hp200 j n (row.map eI)) 7=some ⟨true,.ac 1 [.own 19 0 n 1]⟩:=by rw[ehp];rfl
 have s19:slot (hp200 j n (row.map eI)) 19=some ⟨true,.ac 1 (Ah j .undef++[.own 20 0 n 1])⟩:=by rw[ehp];rfl
 have s20:slot (hp200 j n (row.map eI)) 20=some ⟨false,.dc 1 (row.map eI)⟩:=by rw[ehp];rfl
 obtain⟨u,hu,hru⟩:=hR.tm 7 (.ptr 7 1 0 []) (by kernel_rfl)
 rw[ht] at hu;injection hu with hu
 subst hu;have hφ7:φ 7=some (N+1+1+1):=by
  obtain⟨hr,_⟩:RA EE.L S φ V (.ptr 7 1 0 []) [.pointer (some ⟨N+1+1+1,0,none⟩)]/\_:=hru;cases hr with
  | ptr _ _ _ _ cb hb=>exact hb
 obtain⟨c7,e7,_,⟨cs7,t7,css7,h7,hl7,hr7,hz7,hp7⟩,_⟩:=hR.blk 7 _ s7;rw[hφ7] at e7;injection e7 with e7;subst e7
 rw[h3] at h7;injection h7 with h7;injection h7 with h7 _ _;subst h7
 have hc7:=hr7 0 (by simp) (by simp at hl7;omega)
 have hv7:css7[0]'(by simp at hl7;omega)=[v]:=by
  have hl0:css7.length=1:=by simpa using hl7
  obtain⟨c0,rfl⟩:=Ao.1 hl0;have hz:=hz7 c0 (by simp)
  obtain⟨x,rfl⟩:=Ao.1 hz;obtain⟨r,hr⟩:=hp7;have hr':x :: r=[v]:=hr;injection hr' with e1 _
  rw[<-e1];rfl
 simp only[Ap] at hc7;rw[hv7,hv] at hc7;have hφ19:φ 19=some g:=by
  generalize hm:n=m at hc7 hn;cases hc7 with
  | own _ _ _ _ cb c hb=>exact hb
  | own0=>omega
 obtain⟨c19,e19,_,⟨cs19,t19,css19,h19,hl19,hr19,hz19,hp19⟩,_⟩:=hR.blk 19 _ s19;rw[hφ19] at e19;injection e19 with e19;subst e19
 rw[hg] at h19;injection h19 with h19;injection h19 with h19 _ _;subst h19
 have hl19':css19.length=j+1:=by simpa using hl19
 have hcj:=hr19 j (by simp) (by omega)
 rw[AT (by simp)] at hcj
 simp only[Av,Br,Ap] at hcj;have hφ20:φ 20=some rs[j]:=by
  have hz:=hz19 css19[j] (Af _);obtain⟨x,hx⟩:=Ao.1 hz;have hf:=flat_one hz19 j (by omega) x hx
  have hx2:co.toList[j]? = some x:=by
   obtain⟨rest,hrest⟩:=hp19;rw[<-hrest,Ak (by rw[List.length_flatten];have:=zCy hz19;rw[this];simp;omega)]
   exact hf
  have hx3:co.toList[j]? = some (zDS n rs[j]):=by
   obtain⟨rest,hrest⟩:=hco;rw[<-hrest,Ak (by simpa using hj)]
   simp[hj]
  rw[hx2] at hx3;injection hx3 with hx3
  rw[hx,hx3] at hcj;unfold zDS at hcj;generalize hm:n=m at hcj hn;cases hcj with
  | own _ _ _ _ cb c hb=>exact hb
  | own0=>omega
 obtain⟨c20,e20,_,h20,_⟩:=hR.blk 20 _ s20;rw[hφ20] at e20;injection e20 with e20;subst e20
 exact RB.ints h20
theorem Mem.kept{w:Wk}{ps:List Pt}{sec:Int}{st:Pt}{N g cap c k k':Nat}{v:Value}{rs:List Nat}{S0:Nat->Prop}{wk wd:Array Value}{pa:Option Addr}{V V':World}(m:Mem w ps sec st N v g cap rs S0 wk wd pa c k V)
  (hN:N<=V.heap.size) (hk:∀b,b<V.heap.size->b ∉ rs->V'.heap[b]? = V.heap[b]?) (hrows:∀j (h:j<rs.length),∃cs t,V'.heap[rs[j]]? = some (.cells cs t (0,0))/\(zAd w ps sec st k' j).map (Ar .i64) <+: cs.toList) :
  Mem w ps sec st N v g cap rs S0 wk wd pa c k' V':=by
 have h3:N+1+1+1<V.heap.size:=(Ab.1 m.h3).1;have hg:g<V.heap.size:=by obtain⟨co,tO,h,_⟩:=m.out;exact(Ab.1 h).1
 have hn:∀b,b<N+1+1+1+1->V'.heap[b]? = V.heap[b]?:=λb hb=>hk b (by omega) λh=>by have:=(m.ge b h).1;omega
 have h0:∀b,S0 b->V'.heap[b]? = V.heap[b]?:=λb hb=>hn b (by have:=m.lt0 b hb;omega)
 refine⟨m.glob.mono (λ_ h=>h) h0,m.lt0,m.rw'.mono (λ_ h=>h) h0,m.rp.mono (λ_ h=>h) h0,m.rd.mono (λ_ h=>h) h0,(hn _ (by omega)).trans m.h0,(hn _ (by omega)).trans m.h1,(hn _ (by omega)).trans m.h2,(hn _ (by omega)).trans m.h3,m.hv,m.hg,m.hcap,?_,m.len,m.nodup,m.ge,hrows⟩
 obtain⟨co,tO,h,h'⟩:=m.out;exact⟨co,tO,(hk g hg λh=>(m.ge g h).2 rfl).trans h,h'⟩
end Go.Am
namespace Go.Am
open Go.Proofs
open Go Go.RowKit
attribute [local go_sem] Bi
theorem RD.rowz{w:Wk}{ps:List Pt}{sec:Int}{st:Pt}{N g cap c k:Nat}{v:Value}{rs:List Nat}{S0 S:Nat->Prop}{wk wd:Array Value}{pa:Option Addr}{V:World}(m:Mem w ps sec st N v g cap rs S0 wk wd pa c k V)
  (hS:∀b∈rs,S b) (hg:S g):RD EE.L S V (.sl 1 ((A9 ps.length).map λj=>.sl 1 ((zAd w ps sec st k j).map eI))) [v]:=by
 rw[m.hv];obtain⟨co,tO,hout,hpre,hsz⟩:=m.out;refine RD.sl 1 _ _ ps.length cap (rs.map λb=>[zDS ps.length b]) (by simp) m.hcap (by simp[m.len]) (λj a b=>?_) (λcs hc=>by obtain⟨b,_,rfl⟩:=AH.1 hc;rfl) (λh0=>⟨_,rfl,rfl,hg,λj u hu=>?_⟩)
 ·have hj:j<rs.length:=by simpa using b
  simp only[As,List.getElem_range];obtain⟨cs,t,hrow,hp⟩:=m.rows j hj;refine RD.sl 1 _ _ ps.length ps.length ((zAd w ps sec st k j).map λm=>[Ar .i64 m]) (by simp[zFs]) (AB _) (by simp) (λi a b=>?_) (λcs hc=>by obtain⟨b,_,rfl⟩:=AH.1 hc;rfl) (λ_=>⟨_,rfl,rfl,hS _ (Af hj),λi u hu=>?_⟩)
  ·simp only[As];exact .int _ _
  ·rw[flat1 (Ar .i64)] at hu;refine qf hrow i u ?_;obtain⟨rest,hr⟩:=hp;rw[<-hr,Ak (AA.1 hu).1];exact hu
 ·rw[flat1 (zDS ps.length)] at hu;refine qf hout j u ?_;obtain⟨rest,hr⟩:=hpre;rw[<-hr,Ak (AA.1 hu).1];exact hu
structure Inv200(w:Wk)(ps:List Pt)(sec:Int)(st:Pt)(W0 W1:World)(rs:List Nat)(k:Nat)(V:World):Prop where
 le:k<=(jI ps.length).length
 below:Below W0.heap.size W0 V
 size:W1.heap.size<=V.heap.size
 keep:∀b,b<W1.heap.size->b ∉ rs->V.heap[b]? = W1.heap[b]?
 rows:∀j (h:j<rs.length),∃cs t,V.heap[rs[j]]? = some (.cells cs t (0,0))/\(zAd w ps sec st k j).map (Ar .i64) <+: cs.toList
def D200:List Nat:=List.range' 26 20
section
variable[OO]
theorem c241(n:Int):zB 241 [eI n]=some (.val (.fn 282 [] [.dp (eI n)])):=by
 rw[C241];rw[show zV (zF EE 6) [3] [eI n]=true by kernel_rfl,zD]
 rfl
theorem fn_form{L:Nat->List Nat}{S:Nat->Prop}{W:World}{n:Int}{u:Value}(h:RV L S W (.fn 282 [] [.dp (eI n)]) u) :
  ∃ad,u=.func (.func 282) #[] #[.pointer (some ad)]/\W.cell? ad=some (.int .i64 n)/\S ad.block:=by
 have hr:=(RV.rd rfl h).1;rw[jB (RV.rd rfl h).2] at hr;cases hr with
 | fn _ _ _ vx vy hx hy h1 h2 h3 h4 =>
  obtain rfl:vx=[]:=AE.1 (by simpa using hx)
  obtain⟨u,rfl⟩:∃u,vy=[u]:=Ao.1 (by simpa using hy)
  have h30:=h3 0 (by simp) (by simp)
  have h40:=h4 0 (by simp) (by simp)
  simp only[Ap] at h30 h40;rw[jB (by rw[h40];rfl)] at h30
  cases h30 with
  | dp _ ad cs hs hS hm hx hxt =>
   refine⟨ad,rfl,?_,hS⟩;have:=RD.int1 hx;subst this;have h0:=hm 0 _ rfl
   rwa [jr hs,Nat.add_zero,show(⟨ad.block,ad.off,none⟩:Addr)=ad by rw[<-hs]] at h0
set_option maxHeartbeats 2000000 in
theorem walk200(hE:EnvOKo PP EE OO.o)(w:Wk)(ps:List Pt)(sec:Int)(st:Pt)(hw:w.w.length=w.d.length)(hd:w.d.length<=32)(hp:ps.length<=64)(hq:∀p∈ps,JP p)(hs:zBG st)
  (S0:Nat->Prop) (W0:World) (hg:GlobOK EE S0 W0) (hlt:∀b,S0 b->b<W0.heap.size) (wk wd:Array Value) (pa:Option Addr) (c:Nat)
  (h1:RD EE.L S0 W0 (eWk w) wk.toList) (h2:RD EE.L S0 W0 (.sl 2 (ps.map ePt)) [.slice pa ps.length c]) (h3:RD EE.L S0 W0 (eWd sec st) wd.toList) :
  Calls PP 200 #[.agg wk,.slice pa ps.length c,.agg wd] W0 λe w'=>∃v,e=.returned v/\zAa EE S0 W0 (.val (.sl 1 ((wakesP w ps sec st).map λr=>.sl 1 (r.map eI)))) v w':=by
 have hc:JC PP EE (j6 EE zB):=zAz (jo hE XX);have hD:DOK PP EE:=QE _ _ _;refine rows200 wk wd pa ps.length c hp W0 _ λa W hf=>?_
 obtain⟨v,rs,hv,hown,hl,hnd,hrs⟩:=hf.rows.out;have hbel:=hf.rows.below;have hW3:W0.heap.size+1+1+1<W.heap.size:=(Ab.1 hv).1;have hk0:∀b,S0 b->W.heap[b]? = W0.heap[b]?:=λb hb=>hbel.block b (hlt b hb)
 have hgW:GlobOK EE S0 W:=hg.mono (λ_ h=>h) hk0
 obtain⟨i0,s01,s02,s03,a1,a2,a3,ats2,i1,i2,s1,s2,i3,s3,s4,af1,af2,hb⟩:=body200;rw[hb];have hrun:(AY 81 (a.eval (.tmp 4))).run PP W=.ok (.slice pa ps.length c) W:=by
  have ht4:a.eval (.tmp 4)=.pointer (some ⟨W0.heap.size+1,0,none⟩):=by simp only[Ay,Ae,hf.t4,Aj]
  rw[ht4];have h:=YM (t:=81) (td:=td81) (hD 81 td81 (by kernel_rfl)) (v:=.d (.sl 2 (ps.map ePt))) (by kernel_rfl) (ad:=⟨W0.heap.size+1,0,none⟩) (cs:=[.slice pa ps.length c])
   (RA.d (φ:=λ_=>none) _ _ (h2.mono (λ_ h=>h) hk0)) (qf hf.rows.h1)
  exact(show(AY 81 (.pointer (some ⟨W0.heap.size+1,0,none⟩))).run PP W=(loadVar 81 ⟨W0.heap.size+1,0,none⟩).run PP W from rfl).trans h
 have eg241:∀args w,(callFunc 241 args).run PP w=.ok (.enter 241 args) w:=Ax Tryz.func241 (by kernel_rfl) rfl
 have eg282:∀args w,(callFunc 282 args).run PP w=.ok (.enter 282 args) w:=Ax Tryz.func282 (by kernel_rfl) rfl
 have hc241:=(jo hE XX 241 [eI ps.length] _ (c241 ps.length)).2 S0 W [.int .i64 ps.length] hgW (λb hb=>by have:=hlt b hb;omega) rfl (λi a b=>by
  match i,a with
  | 0,_=>exact⟨.int _ _,rfl⟩)
 refine wp_seq (wp_seq (reg6_wp Tryz.underlying81 hrun hf.size eg241 hc241 λe W1 ⟨u,he,S',hB1,hS1,hS2,hS3,hru⟩=>⟨u,he,?_⟩))
 obtain⟨ad,rfl,hcell,hSad⟩:=fn_form hru;have hadlt:=hS3 _ hSad;have hadrs:ad.block ∉ rs:=λh=>by
  have hb:=(hrs _ h).1;have hlt':ad.block<W.heap.size:=(Ab.1 (hrs _ h).2.1).1;rcases hS2 _ hSad with h' | h'
  ·have:=hlt _ h';omega
  ·omega
 have hWs:W.heap.size<=W1.heap.size:=hB1.size;have hk1:∀b,b<W.heap.size->W1.heap[b]? = W.heap[b]?:=λb hb=>hB1.block b hb
 have hrlt:∀b∈rs,b<W.heap.size:=λb hb=>(Ab.1 (hrs b hb).2.1).1
 have hn63:(ps.length:Int)<9223372036854775807:=by omega
 generalize hact:((a.put (some 21) (.slice pa ps.length c)).put (some 22) (.int .i64 ps.length)).put (some 23) (.func (.func 282) #[] #[.pointer (some ad)])=A;have hA:Tms W0.heap.size A/\A.tmps[23]? = some (.func (.func 282) #[] #[.pointer (some ad)]):=by
  subst hact;have hz:=hf.size;refine⟨⟨hf.dfr,by simp[AC,hz],?_,?_,?_,?_⟩,?_⟩ <;> simp only[AC]
  ·rw[Aa (by decide),Aa (by decide),Aa (by decide)];exact hf.t3
  ·rw[Aa (by decide),Aa (by decide),Aa (by decide)];exact hf.t4
  ·rw[Aa (by decide),Aa (by decide),Aa (by decide)];exact hf.t5
  ·rw[Aa (by decide),Aa (by decide),Aa (by decide)];exact hf.t7
  ·exact Ac (by simp[hz])
 obtain⟨hT,hA23⟩:=hA;clear hact;have hevg:A.eval (.tmp 23)=.func (.func 282) #[] #[.pointer (some ad)]:=by simp only[Ay,Ae,hA23,Aj]
 have hzrow:∀j (h:j<rs.length),∃cs t,W1.heap[rs[j]]? = some (.cells cs t (0,0))/\(zAd w ps sec st 0 j).map (Ar .i64) <+: cs.toList:=by
  intro j h;refine⟨_,_,(hk1 _ (hrlt _ (Af h))).trans (hrs _ (Af h)).2.1,?_⟩;rw[rowK_zero];have e:(zrow ps.length).toList=Ah ps.length (.int .i64 0):=by unfold zrow madeCells;refine Be (by simp) λi h1 h2=>by simp[Nat.mod_one]
  rw[e,List.map_replicate];exact List.prefix_refl _
 have hmem:0<ps.length->∃g cap,Mem w ps sec st W0.heap.size v g cap rs S0 wk wd pa c 0 W1:=by
  intro h0;obtain⟨m,hm⟩:∃m,ps.length=m+1:=⟨ps.length - 1,by omega⟩
  have hown':=hown;rw[hm] at hown';obtain⟨g,cap,hvg⟩:=zCX hown';rw[<-hm] at hvg;rcases hown.2 with ⟨_,e⟩ | ⟨g',cap',cur,e1,e2,e3,e4,_,e5,e6⟩
  ·omega
  ·rw[hvg] at e1;simp only[AK,At,AP,and_true,true_and] at e1;obtain⟨rfl,rfl⟩:=e1;have hglt:g<W.heap.size:=(Ab.1 e3).1;refine⟨g,cap,?_⟩;refine Mem.kept (V:=W) (k:=0) ⟨hgW,hlt,h1.mono (λ_ h=>h) hk0,h2.mono (λ_ h=>h) hk0,h3.mono (λ_ h=>h) hk0,hf.rows.h0,hf.rows.h1,hf.rows.h2,hv,hvg,e2,e4,⟨cur,25,e3,?_,by omega⟩,by rw[hl],hnd,λb hb=>⟨(hrs b hb).1,?_⟩,?_⟩ (by have:=hbel.size;omega) (λb hb _=>hk1 b hb) hzrow
   ·rw[<-e6];exact Bb _ _
   ·rintro rfl;have:=(hrs _ hb).2.2;rw[hvg] at this;exact this rfl
   ·intro j h;obtain⟨cs,t,h5,h6⟩:=hzrow j h;exact⟨cs,t,(hk1 _ (hrlt _ (Af h))).symm.trans h5,h6⟩
 have hn0:∀b∈rs,W0.heap.size+1+1+1+1<=b:=λb hb=>(hrs b hb).1
 have hInv0:∀V:World,Below W1.heap.size W1 V->Inv200 w ps sec st W0 W1 rs 0 V:=by
  intro V hV;refine⟨AO _,(hbel.trans (hB1.mono (by have:=hbel.size;omega))).trans (hV.mono (by have:=hbel.size;omega)),hV.size,λb hb _=>hV.block b hb,λj h=>?_⟩
  obtain⟨cs,t,h5,h6⟩:=hzrow j h;exact⟨cs,t,(hV.block _ (by have:=hrlt _ (Af h);omega)).trans h5,h6⟩
 have hmemV:∀k V,Inv200 w ps sec st W0 W1 rs k V->0<ps.length->∃g cap,Mem w ps sec st W0.heap.size v g cap rs S0 wk wd pa c k V:=by intro k V hI h0;obtain⟨g,cap,m⟩:=hmem h0;exact⟨g,cap,m.kept (by have:=hbel.size;omega) hI.keep hI.rows⟩
 refine wp_block (wpIn_wide.1 (zAh (C:=λW=>W.cell? ad=some (.int .i64 ps.length)) (xs:=(jI ps.length).map encP) hevg eg282 (zG1 ad ps.length hn63) (λx hx=>by obtain⟨p,_,rfl⟩:=AH.1 hx;rfl)
  (Inv200 w ps sec st W0 W1 rs) ?_ ?_ ?_ (λx=>(({ tmps:=((#[24,25]:Array Tmp).zip x).foldl (λt (p,v)=>t.setIfInBounds p v) A.tmps,defers:=[] }:Act).put (some 8) (({ tmps:=((#[24,25]:Array Tmp).zip x).foldl (λt (p,v)=>t.setIfInBounds p v) A.tmps,defers:=[] }:Act).eval (.tmp 24))).put (some 9)
   ((({ tmps:=((#[24,25]:Array Tmp).zip x).foldl (λt (p,v)=>t.setIfInBounds p v) A.tmps,defers:=[] }:Act).put (some 8) (({ tmps:=((#[24,25]:Array Tmp).zip x).foldl (λt (p,v)=>t.setIfInBounds p v) A.tmps,defers:=[] }:Act).eval (.tmp 24))).eval (.tmp 25))) ?_ ?_ ?_))
 ·
  intro k V r o hI hlo;have hne:∀b,b<W1.heap.size->(V.putObj (W1.heap.size+1) o).heap[b]? = V.heap[b]?:=λb hb=>World.putObj_heap_other (by omega)
  refine⟨hI.le,Qa hI.below (by have:=hI.below.size;omega) (by have:=hbel.size;omega) o,by simpa[World.putObj] using hI.size,λb hb hr=>(hne b hb).trans (hI.keep b hb hr),λj h=>?_⟩
  obtain⟨cs,t,h5,h6⟩:=hI.rows j h;exact⟨cs,t,(hne _ (by have:=hrlt _ (Af h);omega)).trans h5,h6⟩
 ·intro k V hI;exact(World.cell?_of_block (a:=ad) (hI.keep _ hadlt hadrs)).trans hcell
 ·intro r;exact hInv0 _ (((Below.refl _ W1).alloc (AB _) _).alloc (by simp) _)
 ·intro k x V K hx hK;exact asg_wp hK
 ·rintro k x V r hx hI hlo hDo;rw[List.getElem?_map] at hx;cases hpk:(jI ps.length)[k]? with
  | none=>rw[hpk] at hx;simp at hx
  | some q =>
  rw[hpk] at hx;simp only[Option.map_some,At] at hx;subst hx;obtain⟨j,i⟩:=q;obtain⟨hj,hi,hne⟩:=zC5 (List.mem_of_getElem? hpk);simp only at hj hi hne;have hkl:k<(jI ps.length).length:=(AA.1 hpk).1;obtain⟨g,cap,m⟩:=hmemV k V hI (by omega)
  have hjr:j<rs.length:=by omega
  have hsz:A.tmps.size=47:=hT.size;have hact:({ tmps:=((#[24,25]:Array Tmp).zip (encP (j,i))).foldl (λt (p,v)=>t.setIfInBounds p v) A.tmps,defers:=[] }:Act)=(A.put (some 24) (.int .i64 j)).put (some 25) (.int .i64 i):=by
   have hd0:A.defers=[]:=hT.dfr;have:∀(t:Array Value) (d:List Deferred),d=[]->({ tmps:=t,defers:=[] }:Act)=⟨t,d⟩:=λt d h=>by rw[h]
   refine(this _ _ hd0).trans ?_;simp[encP,AC]
  rw[hact];have ev1:((A.put (some 24) (.int .i64 j)).put (some 25) (.int .i64 i)).eval (.tmp 24)=.int .i64 j:=by simp only[Ay,AC,Ae];rw[Aa (by decide),Ac (by omega),Aj]
  rw[ev1];have ev2:(((A.put (some 24) (.int .i64 j)).put (some 25) (.int .i64 i)).put (some 8) (.int .i64 j)).eval (.tmp 25)=.int .i64 i:=by simp only[Ay,AC,Ae];rw[Aa (by decide),Ac (by simp;omega),Aj]
  rw[ev2];generalize hB:((((A.put (some 24) (.int .i64 j)).put (some 25) (.int .i64 i)).put (some 8) (.int .i64 j)).put (some 9) (.int .i64 i))=B;have hTB:Tms W0.heap.size B/\B.tmps[8]? = some (.int .i64 (j:Int))/\B.tmps[9]? = some (.int .i64 (i:Int)):=by
   subst hB;refine⟨⟨hT.dfr,by simp[AC,hsz],?_,?_,?_,?_⟩,?_,?_⟩ <;> simp only[AC]
   ·rw[Aa (by decide),Aa (by decide),Aa (by decide),Aa (by decide)];exact hT.t3
   ·rw[Aa (by decide),Aa (by decide),Aa (by decide),Aa (by decide)];exact hT.t4
   ·rw[Aa (by decide),Aa (by decide),Aa (by decide),Aa (by decide)];exact hT.t5
   ·rw[Aa (by decide),Aa (by decide),Aa (by decide),Aa (by decide)];exact hT.t7
   ·rw[Aa (by decide),Ac (by simp[hsz])]
   ·rw[Ac (by simp[hsz])]
  obtain⟨hTB,hB8,hB9⟩:=hTB;clear hB;have hVs:=hI.size;have hlo':W1.heap.size+1<V.heap.size:=(Ab.1 hlo).1;let S:Nat->Prop:=λb=>(b<W1.heap.size/\b≠rs[j])\/b=W1.heap.size+1\/b=W1.heap.size
  have hrj:rs[j]<W1.heap.size:=by have:=hrlt _ (Af hjr);omega
  have hsm:∀b,b<W0.heap.size+1+1+1+1->S b:=λb hb=>.inl ⟨by omega,by have:=hn0 _ (Af hjr);omega⟩
  have hSg:S g:=by
   obtain⟨co,tO,h5,_⟩:=(hmem (by omega)).choose_spec.choose_spec.out
   obtain⟨g',cap',m'⟩:=hmem (by omega)
   have eg:g'=g:=by have e1:=m'.hv.symm.trans m.hv;simp only[AK,At,AP] at e1;exact e1.1.1
   subst eg;obtain⟨co,tO,h5,_⟩:=m'.out;exact .inl ⟨(Ab.1 h5).1,λe=>(m'.ge _ (Af hjr)).2 e.symm⟩
  have hRr:=round_rel m hTB (by have:=hbel.size;omega) hjr hB8 hB9 (S:=S) (λb hb=>by rcases hb with ⟨h,_⟩ | rfl | rfl <;> omega) (λb hb=>hsm b (by have:=hlt b hb;omega)) (hsm _ (by omega)) (hsm _ (by omega)) (hsm _ (by omega)) (hsm _ (by omega)) hSg
   (λh=>by rcases h with ⟨_,h⟩ | h | h <;> omega)
  refine zDf hD (by kernel_rfl) hc k200b (D:=D200) (by kernel_rfl) (by kernel_rfl) (by rintro⟨a,w,h,_⟩;cases h) (zHr (M:=1) (AB 1) (by kernel_rfl) (b200 w ps sec st hw hd hp hq hs (zAd w ps sec st k j) (zFs _ _ _ _ _ _) j i hj hi)) hRr ?_
  intro ex st' S3 φ3 a3 W3 hK3 hR5 hG5 hkeep;obtain⟨rfl,hle⟩:=zBg hK3;have hR6:=hR5.le hle;have hkS:∀b,S b->W3.heap[b]? = V.heap[b]?:=λb hb=>hG5.kept b hb
  refine⟨rfl,⟨by omega,hI.below.trans hG5.below,by have:=hG5.below.size;omega,λb hb hr=>?_,λb hb=>?_⟩,hkS _ (.inr (.inl rfl)),hkS _ (.inr (.inr rfl))⟩
  ·exact(hkS b (.inl ⟨hb,λe=>hr (e ▸ Af hjr)⟩)).trans (hI.keep b hb hr)
  ·by_cases hbj:b=j
   ·subst hbj;rw[rowK_step w ps sec st k b i hpk];obtain⟨co,tO,h5,h6,_⟩:=m.out;refine round_back hR6 ((hkeep 7 (by decide)).trans hTB.t7) ((hkS _ (hsm _ (by omega))).trans m.h3) m.hv ((hkS g hSg).trans h5) h6 hjr (by omega)
   ·obtain⟨cs,t,h5,h6⟩:=hI.rows b hb;refine⟨cs,t,(hkS _ (.inl ⟨by have:=hrlt _ (Af hb);omega,λe=>hbj ?_⟩)).trans h5,?_⟩
    ·exact(List.getElem_inj hnd).1 e
    ·rw[rowK_other w ps sec st k j i b hpk hbj];exact h6
 ·intro V hI hDo;rw[Ad] at hI;show(Code.seq _ Code.ret).wp PP _ _ V;let S:Nat->Prop:=λb=>S0 b\/(W0.heap.size<=b/\b<W1.heap.size)
  have hN1:W0.heap.size<=W.heap.size:=hbel.size;have hVs:=hI.size;have hkV:∀b,b<W0.heap.size+1+1+1+1->V.heap[b]? = W.heap[b]?:=λb hb=>(hI.keep b (by omega) (λh=>by have:=hn0 b h;omega)).trans (hk1 b (by omega))
  have hX:RD EE.L S V (.sl 1 ((wakesP w ps sec st).map λr=>.sl 1 (r.map eI))) [v]:=by
   by_cases h0:0<ps.length
   ·obtain⟨g,cap,m⟩:=hmemV _ V hI h0;have hgl:g<W1.heap.size:=by obtain⟨g',cap',m'⟩:=hmem h0;have e1:=m'.hv.symm.trans m.hv;simp only[AK,At,AP] at e1;rw[<-e1.1.1];obtain⟨co,tO,h5,_⟩:=m'.out;exact(Ab.1 h5).1
    have h:=RD.rowz m (S:=S) (λb hb=>.inr ⟨by have:=hn0 b hb;omega,by have:=hrlt b hb;omega⟩) (.inr ⟨by have:=m.hg;omega,hgl⟩)
    have e:((wakesP w ps sec st).map λr=>DV.sl 1 (r.map eI))=(A9 ps.length).map λj=>.sl 1 ((zAd w ps sec st (jI ps.length).length j).map eI):=by
     unfold wakesP;rw[AZ];refine List.map_congr_left λj hj=>?_
     rw[rowK_end w ps sec st j (List.mem_range.1 hj)];rfl
    rw[e];exact h
   ·have hz:ps.length=0:=by omega
    have e:wakesP w ps sec st=[]:=by unfold wakesP;rw[hz];rfl
    rw[e];rcases hown.2 with ⟨e1,_⟩ | ⟨g,cap,cur,e1,_,_,hcap,_⟩
    ·rw[e1];exact RD.sl 1 [] none 0 0 [] rfl (AB _) rfl (λi a=>by simp at a) (by simp) (λh=>by omega)
    ·rw[e1,hz];exact RD.sl 1 [] _ 0 cap [] rfl (AO _) rfl (λi a=>by simp at a) (by simp) (λh=>by omega)
  have hS0V:∀b,S0 b->V.heap[b]? = W0.heap[b]?:=λb hb=>hI.below.block b (hlt b hb)
  have hR:Rel EE W0.heap.size S (λ_=>none) ⟨(Ah 47 AV.undef).set 7 (.d (.dp (.sl 1 ((wakesP w ps sec st).map λr=>.sl 1 (r.map eI))))),Ah 47 none⟩ A V:=by
   refine⟨hg.mono (λ_ h=>.inl h) hS0V,?_,λb ob hb=>?_,λb b' ob ob' cb hb=>?_,λb hb=>?_,hI.below.size,hT.dfr⟩
   ·refine(TmOK.undef hT.size).set hT.t7 ?_;exact⟨RD.dp _ _ [v] rfl (.inr ⟨by show W0.heap.size<=W0.heap.size+1+1+1;omega,by show W0.heap.size+1+1+1<W1.heap.size;omega⟩) (qf ((hkV _ (by omega)).trans hv)) hX rfl,rfl⟩
   ·unfold slot at hb;simp only[Al] at hb;split at hb <;> simp_all
   ·unfold slot at hb;simp only[Al] at hb;split at hb <;> simp_all
   ·rcases hb with hb | hb
    ·have:=hlt b hb;have:=hI.below.size;omega
    ·omega
  have hG:Grow W0.heap.size S0 S W0 V:=⟨hI.below,λ_ h=>.inl h,λb hb=>hb.imp id λh=>h.1,hS0V⟩
  refine tail_wp (fn:=Tryz.f200) (x:=.d (.sl 1 ((wakesP w ps sec st).map λr=>.sl 1 (r.map eI)))) (fresh:=false) (v:=.d (.dp (.sl 1 ((wakesP w ps sec st).map λr=>.sl 1 (r.map eI))))) (w0:=W0) (S0:=S0) hD hR hG hDo
   (λh=>h.elim (λh=>by have:=hlt _ h;omega) (λh=>by omega)) (by omega) rfl (by kernel_rfl) (by kernel_rfl) (by simp)
theorem zJr{L:Nat->List Nat}{S:Nat->Prop}{W:World}{x:DV}{u:Value}(h:RV L S W x u)(hx:x.isTup=false)(ha:x.isAgg=true):∃cs:Array Value,u=.agg cs/\RD L S W x cs.toList:=by obtain⟨h1,h2⟩:=RV.rd hx h;rw[ha] at h2;obtain⟨cs,rfl⟩:=zGZ h2;exact⟨cs,rfl,h1⟩
theorem at200(hE:EnvOKo PP EE OO.o)(ds:List DV)(r:CR):T200 ds r->qM PP EE 200 ds r:=by
 rintro⟨w,ps,sec,st,hw,hd,hp,hq,hs,rfl,rfl⟩;refine⟨enters Tryz.func200 (by kernel_rfl) (by kernel_rfl),λS0 W0 vals hg hlt hlen hv=>?_⟩
 obtain⟨x,y,z,rfl⟩:∃x y z,vals=[x,y,z]:=by
  match vals,hlen with
  | [a,b,c],_=>exact⟨a,b,c,rfl⟩
 have h0:=hv 0 (by simp) (by simp)
 have h1:=hv 1 (by simp) (by simp)
 have h2:=hv 2 (by simp) (by simp)
 simp only[Ap,List.getElem_cons_succ] at h0 h1 h2;obtain⟨wk,rfl,hwk⟩:=zJr h0 rfl rfl;obtain⟨wd,rfl,hwd⟩:=zJr h2 rfl rfl;obtain⟨pa,c,rfl⟩:∃pa c,y=.slice pa ps.length c:=by
  have hy:=(RV.rd rfl h1).1;generalize hcs:vcs y=cs at hy;generalize hm:ps.map ePt=l at hy;cases hy with
  | sl _ _ pa n c css hn _ _ _ _ _ =>
   refine⟨pa,c,?_⟩;have:n=ps.length:=by rw[<-hn,<-hm,Ad]
   subst this;exact zCT h1 rfl rfl hcs
 exact walk200 hE w ps sec st hw hd hp hq hs S0 W0 hg hlt wk wd pa c hwk (RV.rd rfl h1).1 hwd
end
end Go.Am
namespace Go.Am
open Go.Proofs
open Go Go.RowKit Go.Sort Go.Proofs
open Classical
def T68(ds:List DV)(r:CR):Prop:=∃(s:Si) (n:Int),ds=[eSi s,eI n]/\r=.val (.tup [.sl 1 ((YI s n).1.map eN),eI (YI s n).2])
def okT:Option St->St->Prop
 | none,_=>False
 | some t,st=>Le [] t st
noncomputable def head68(r:CR)(tgt:Option St)(j:Nat)(st:St):Tr:=if j=900 then (if okT tgt st then .ret r else .fail) else Jj EE XX (XX.fx 68) j k68a 0 0 K68 st
noncomputable def K68r(r:CR)(tgt:Option St)(e:Ex)(st:St):Option CR:=match e with
 | .normal=>if okT tgt st then some r else none
 | e=>bnd (zEf EE (EE.fresh 68) (JI EE 68) e st) (λr0=>some (zCF EE (EE.fresh 68) (JI EE 68) r0))
def t68St(l:List Pt):St:=if l=[] then zr 47 [(9,.d .nl)] [] else zr 47 [(9,.own 41 0 (l.map ePt).length 2)] [(41,⟨false,.dc 2 (l.map ePt)⟩)]
def plL(s:Si)(n:Int):List Pt:=(A9 s.tb.length).map (plP (J1 s n))
section
variable[OO]
theorem zC6(r:CR)(tgt:Option St)(st:St):head68 r tgt 0 st=Jj EE XX (XX.fx 68) 0 k68a 0 0 K68 st:=by unfold head68;rw[if_neg (by decide)]
theorem zJe{r:CR}{tgt:Option St}{st:St}(h:okT tgt st):goH zB (head68 r tgt) 900 st=some r:=by rw[zGQ];unfold head68;rw[if_pos rfl,if_pos h];rfl
theorem key_at(s:Si)(n:Int)(i:Nat)(h:i<s.tb.length):J1 s n i=zBb (s.tb[i].at') (zY n):=by unfold J1;rw[List.getD_eq_getElem?_getD,AW h,Aj]
theorem zDt(s:Si)(n:Int):(plL s n).length=s.tb.length:=by simp[plL]
theorem pl_at(s:Si)(n:Int)(i:Nat)(h:i<s.tb.length):(plL s n)[i]'(by rw[zDt];exact h)=⟨J1 s n i,i⟩:=by simp[plL,plP]
theorem pl_take(s:Si)(n:Int)(i:Nat)(h:i<s.tb.length):(plL s n).take (i+1)=(plL s n).take i++[⟨J1 s n i,i⟩]:=by
 rw[List.take_succ,AW (by rw[zDt];exact h),pl_at s n i h]
 rfl
theorem call187(s:Si)(he:jM s=0)(n:Int)(i:Nat)(h:i<s.tb.length):zB 187 [.agg 9 [.int .i64 n,.agg 1 [.int .i64 (zY n).x,.int .i64 (zY n).y]],
  .agg 1 [.int .i64 (zC (nth (flds (nth (flds (eTb s.tb[i])) 1)) 0)),.int .i64 (zC (nth (flds (nth (flds (eTb s.tb[i])) 1)) 1))]]=some (.val (eI (J1 s n i))):=by
 obtain⟨h1,_⟩:=Yz he;obtain⟨a,b,c,d⟩:=(h1 _ (Af h)).1;rw[key_at s n i h];exact c187 n (zY n) s.tb[i].at' (zGC n) 1000 (by omega) a b c d
def st68(s:Si)(n:Int)(i:Nat):St :=
 zr 47 [(7,.ptr 7 3 0 []),(9,.own 41 0 (((plL s n).take i).map ePt).length 2),(26,.d (.sl 3 (s.tb.map eTb))),(27,.d (.int .i64 (s.tb.length:Int))),(28,.d (.int .i64 (i:Int)))] [(7,⟨false,.dc 3 [dWd n (zY n).x (zY n).y]⟩),(41,⟨false,.dc 2 (((plL s n).take i).map ePt)⟩)]
theorem loop68(s:Si)(he:jM s=0)(n:Int)(r:CR):∀i,i<=s.tb.length->1<=i->goH zB (head68 r (some (t68St (plL s n)))) 0 (st68 s n i)=some r:=by
 obtain⟨h1,_,_,_,h64⟩:=Yz he;refine down (P:=λi=>1<=i->goH zB (head68 r (some (t68St (plL s n)))) 0 (st68 s n i)=some r) s.tb.length ?_ ?_
 ·intro hpos;rw[zGQ,zC6];refine(l68_run _ n (zY n).x (zY n).y (s.tb.map eTb) _ _ _).trans ?_;rw[decide_eq_false (by omega),zU]
  refine zJe ?_;show Le [] _ _;have hne:plL s n≠[]:=λe=>by have:=zDt s n;rw[e] at this;simp at this;omega
  unfold t68St;rw[if_neg hne,<-zDt s n,Bc];rw[show zr 47 [(9,.own 41 0 ((plL s n).map ePt).length 2)] [(41,⟨false,.dc 2 ((plL s n).map ePt)⟩)]=forget [9] _ from ?_]
  ·exact Jf _ _
  ·kernel_rfl
 ·intro i hi ih hpos;rw[zGQ,zC6];refine(l68_run _ n (zY n).x (zY n).y (s.tb.map eTb) _ _ _).trans ?_;rw[decide_eq_true (by omega),zD,Ad,decide_eq_true (by omega),zD,Bg,zO eTb s.tb i hi]
  rw[show zF EE 6 176 (eTb s.tb[i])=true by kernel_rfl,zD,call187 s he n i hi]
  have hl:(((plL s n).take i).map ePt).length=i:=by rw[Ad,List.length_take,zDt];omega
  simp only[zJ];rw[show ∀m:Int,zF EE 6 3 (eI m)=true from λm=>by kernel_rfl,zD]
  simp only[decide_true,zD];rw[decide_eq_true (show(2 * ((((plL s n).take i).map ePt).length+1)+200) * 16<=281474976710656 by rw[hl];omega),zD,zI,wr ((i:Int)+1) (by omega)]
  have e:=ih (by omega)
  unfold st68 at e;rw[pl_take s n i hi,List.map_append] at e;exact e
theorem run68(s:Si)(n:Int)(r:CR)(he:jM s=0)(hn:zf n 0 7=0):run zB (goH zB (head68 r (some (t68St (plL s n))))) (a68 (eSi s) (eI n))=some r:=by
 rw[a68_run];rw[show zV (zF EE 6) [58,3] [eSi s,eI n]=true by kernel_rfl,zD]
 have e1:zB 158 [(.agg 0 [(.str (zX (nth (flds (eSi s)) 0))),(.int .i64 (zC (nth (flds (eSi s)) 1))),(.sl 3 (elems (nth (flds (eSi s)) 2)))])]=some (.val (eI 0)):=by have:=c158 s;rw[he] at this;exact this
 have e2:zB 147 [.int .i64 (zC (eI n))]=some (.val (.tup [eWd n (zY n),eI 0])):=by have:=c147 n;rw[if_pos hn,hn] at this;exact this
 rw[e1];simp only[zJ];rw[show zF EE 6 46 (eI 0)=true by kernel_rfl,zD,show bne (zC (eI 0)) (0:Int)=false from rfl,zU,e2]
 simp only[zJ];rw[show(DV.isTup (.tup [eWd n (zY n),eI 0]) && zV (zF EE 6) [251,46] (tups (.tup [eWd n (zY n),eI 0])))=true by kernel_rfl,zD,show bne (zC (nth (tups (.tup [eWd n (zY n),eI 0])) 1)) (0:Int)=false from rfl,zU]
 rw[zGQ,zC6];have hl:(elems (nth (flds (eSi s)) 2))=s.tb.map eTb:=rfl;rw[hl,Ad];refine(z68_run _ n (zY n).x (zY n).y (s.tb.map eTb) _ _).trans ?_;by_cases h0:s.tb.length=0
 ·rw[decide_eq_false (by omega),zU]
  refine zJe ?_;show Le [] _ _;have hne:plL s n=[]:=by unfold plL;rw[h0];rfl
  unfold t68St;rw[if_pos hne];rw[show zr 47 [(9,.d .nl)] []=forget [9] _ from ?_]
  ·exact Jf _ _
  ·kernel_rfl
 ·rw[decide_eq_true (by omega),zD,Ad,decide_eq_true (by omega),zD,show Ag 0=0 from rfl,zO eTb s.tb 0 (by omega)]
  rw[show zF EE 6 176 (eTb s.tb[0])=true by kernel_rfl,zD,call187 s he n 0 (by omega)]
  simp only[zJ];rw[show ∀m:Int,zF EE 6 3 (eI m)=true from λm=>by kernel_rfl,zD]
  have e:=loop68 s he n r 1 (by omega) (AB 1)
  unfold st68 at e;rw[pl_take s n 0 (by omega)] at e
  exact e
theorem run68e(s:Si)(n:Int)(r:CR)(tgt:Option St)(h:jM s≠0\/zf n 0 7≠0)(hr:r=.val (.tup [.sl 1 [],eI (YI s n).2])):run zB (goH zB (head68 r tgt)) (a68 (eSi s) (eI n))=some r:=by
 subst hr;rw[a68_run];rw[show zV (zF EE 6) [58,3] [eSi s,eI n]=true by kernel_rfl,zD]
 have e1:zB 158 [(.agg 0 [(.str (zX (nth (flds (eSi s)) 0))),(.int .i64 (zC (nth (flds (eSi s)) 1))),(.sl 3 (elems (nth (flds (eSi s)) 2)))])]=some (.val (eI (jM s))):=c158 s;rw[e1];simp only[zJ];rw[show ∀m:Int,zF EE 6 46 (eI m)=true from λm=>by kernel_rfl,zD,zI]
 by_cases he:jM s=0
 ·have hn:zf n 0 7≠0:=h.resolve_left (λh=>h he)
  have e2:zB 147 [.int .i64 (zC (eI n))]=some (.val (.tup [eWd 0 ⟨0,0⟩,eI (zf n 0 7)])):=by have:=c147 n;rw[if_neg hn] at this;exact this
  rw[he,show bne (0:Int) 0=false from rfl,zU,e2]
  simp only[zJ];rw[show ∀m,(DV.isTup (.tup [eWd 0 ⟨0,0⟩,eI m]) && zV (zF EE 6) [251,46] (tups (.tup [eWd 0 ⟨0,0⟩,eI m])))=true from λm=>by kernel_rfl,zD,
   show bne (zC (nth (tups (.tup [eWd 0 ⟨0,0⟩,eI (zf n 0 7)])) 1)) (0:Int)=true from by simpa using hn,zD]
  rw[show(YI s n).2=zf n 0 7 by unfold YI;rw[if_pos he,if_neg hn]]
  rfl
 ·rw[show bne (jM s) 0=true by simpa using he,zD]
  rw[show(YI s n).2=jM s by unfold YI;rw[if_neg he]]
end
end Go.Am
namespace Go.Am
open Go.Proofs
open Go Go.RowKit Go.Sort Go.Proofs
open Classical
theorem body68:∃i s1 s2 af1 af2 ats,Tryz.f68.body=some (seqs cs68 (.seq (.region i #[{ dst:=some 43,op:=.move (.tmp 9),type:=300,pos:=s1,after:=af1,guard:=none },
  { dst:=some 44,op:=.call { callee:=.value (.func 188),args:=#[.tmp 43,.func 189],argTypes:=ats },type:=0,pos:=s2,after:=af2,guard:=none }] false) (sq2 k68t))) :=
 ⟨13,zAV (sq1 k68t) 0,zAV (sq1 k68t) 1,zGc (sq1 k68t) 0,zGc (sq1 k68t) 1,#[300,304],by kernel_rfl⟩
theorem call_wp{P:Program}{a:Act}{w:World}{i t1 t2 p f g ty ty2:Nat}{s1 s2:String}{af1 af2:Array Edge}{ats:Array TypeId}{v:Value}{R:Ending->World->Prop}{Q:Exit->Act->World->Prop}
  (he:a.eval (.tmp p)=v) (h1:t1<a.tmps.size) (eg:∀args w,(callFunc f args).run P w=.ok (.enter f args) w) (hc:Calls P f #[v,.func (.func g) #[] #[]] w R)
  (hR:∀e w',R e w'->∃u,e=.returned u/\Q .normal ((a.put (some t1) v).put (some t2) u) w') :
  (Bt i #[{ dst:=some t1,op:=.move (.tmp p),type:=ty,pos:=s1,after:=af1,guard:=none },
   { dst:=some t2,op:=.call { callee:=.value (.func f),args:=#[.tmp t1,.func g],argTypes:=ats },type:=ty2,pos:=s2,after:=af2,guard:=none }] false).wp P Q a w:=by
 have hput:(a.put (some t1) v).eval (.tmp t1)=v:=by simp only[Ay,AC,Ae,Ac h1,Aj]
 refine wp_region ?_;simp only[AM,Bd,Bm,A3,Bk,Bj,Bl,Bf,wpOps,A4,AX,An,Bh,if_true];refine .inl ?_;unfold Oper.wp;simp only[execOp,he,AI,A8,Bq,Bu];refine .inl ?_;have hev:∀x:Act,x.eval (.func f)=.func (.func f) #[] #[]:=λ_=>rfl
 have hev2:∀x:Act,x.eval (.func g)=.func (.func g) #[] #[]:=λ_=>rfl
 have hrun:(execOp (a.put (some t1) v).eval { dst:=some t2,op:=.call { callee:=.value (.func f),args:=#[.tmp t1,.func g],argTypes:=ats },type:=ty2,pos:=s2,after:=af2,guard:=none }).run P w=.ok (.enter f #[v,.func (.func g) #[] #[]]) w:=by simp[execOp,resolve,A7,invoke,hev,hev2,hput,eg]
 have hrun':=hrun;simp only[execOp,AI] at hrun';rw[hrun'];show Calls P f _ _ _;refine hc.mono λe w' h=>?_
 obtain⟨u,rfl,hq⟩:=hR e w' h;exact hq
section
variable[OO]
theorem tail68(l:List Pt)(hl:l.length<=64):∃M,exec EE M (j6 EE zB) (sq2 k68t) (t68St l) (λe st=>bnd (zEf EE (EE.fresh 68) (JI EE 68) e st) λr0=>some (zCF EE (EE.fresh 68) (JI EE 68) r0))=some (.val (.tup [.sl 1 ((l.map (·.y)).map eI),eI 0])):=by
 refine zAI (X:=XX) (F:=XX.fx 68) (head:=λj st=>Jj EE XX (XX.fx 68) j (sq2 k68t) 0 0 (zHE EE (EE.fresh 68) (JI EE 68)) st) (show z7 (sq2 k68t)<=1000 by rw[show z7 (sq2 k68t)=0 by kernel_rfl];omega) (λ_ _ _=>rfl) (λp e st h=>qe h) Yp ?_
 unfold t68St;by_cases h:l=[]
 ·subst h;rw[if_pos rfl];refine(u68_run _).trans ?_;rw[show zB 190 [.sl 2 [],.fn 191 [] []]=_ from c190 [] (by simp)]
  simp only[zJ];rw[show zF EE 6 25 (.sl 1 (([]:List Pt).map (·.y) |>.map eI))=true by kernel_rfl,zD]
  rfl
 ·rw[if_neg h];refine(t68_run _ (l.map ePt)).trans ?_;rw[decide_eq_true (by omega),zD,Bn,Bc,c190 l (by omega)]
  simp only[zJ];rw[show ∀x:List DV,zF EE 6 25 (.sl 1 x)=true from λx=>by kernel_rfl,zD]
  rfl
theorem mono68(r:CR)(tgt:Option St):Mono r (K68r r tgt) (K68r r tgt):=by
 intro e s t hst h;cases e with
 | normal =>
  unfold K68r at h ⊢;simp only at h ⊢;split at h
  ·rename_i hk;rw[if_pos ?_];cases tgt with
   | none=>exact hk
   | some t0=>exact Le.trans hk hst
  ·cases h
 | ret=>exact Yp (E:=EE) (fresh:=EE.fresh 68) (fn:=JI EE 68) .ret s t hst h
 | exit i=>exact Yp (E:=EE) (fresh:=EE.fresh 68) (fn:=JI EE 68) (.exit i) s t hst h
theorem exec68(s:Si)(n:Int)(r:CR)(tgt:Option St)(h:run zB (goH zB (head68 r tgt)) (a68 (eSi s) (eI n))=some r):∃M,exec EE M (j6 EE zB) (seqs cs68 .skip) (entry Tryz.f68 [eSi s,eI n]) (K68r r tgt)=some r:=by
 obtain⟨_,h⟩:=zBy (by rw[show(JI EE 68).params.toList.length+(XX.fx 68).caps=2 by kernel_rfl,show(JI EE 68).ntmps=47 by kernel_rfl];omega) h
 refine zAI (X:=XX) (F:=XX.fx 68) (head:=head68 r tgt) (show z7 k68a<=1000 by rw[show z7 k68a=1 by kernel_rfl];omega) (λj hj st=>?_) (λp e st h=>?_) (mono68 r tgt) h
 ·unfold head68;rw[if_neg ?_]
  ·rfl
  ·have:z7 (seqs cs68 .skip)=1:=by kernel_rfl
   rcases hj with ⟨h1,h2,h3⟩ | ⟨h1,h2⟩ <;> omega
 ·cases e with
  | normal =>
   have h1:goX zB (head68 r tgt) p 900 st=some r:=h;cases p with
   | zero=>simp[goX] at h1
   | succ p =>
    have h2:run zB (goX zB (head68 r tgt) p) (head68 r tgt 900 st)=some r:=h1;unfold head68 at h2;rw[if_pos rfl] at h2;unfold K68r;simp only;split at h2
    ·rename_i hk;rw[if_pos hk]
    ·simp[run] at h2
  | ret=>exact qe (E:=EE) (fresh:=EE.fresh 68) (fn:=JI EE 68) (e:=.ret) (st:=st) h
  | exit i=>exact qe (E:=EE) (fresh:=EE.fresh 68) (fn:=JI EE 68) (e:=.exit i) (st:=st) h
theorem und68(l:List Pt):j5 (j5 (t68St l).tm (some 43) .undef) (some 44) .undef=(t68St l).tm:=by
 unfold t68St;by_cases h:l=[]
 ·rw[if_pos h];kernel_rfl
 ·rw[if_neg h];kernel_rfl
set_option maxHeartbeats 1000000 in
theorem at68(hE:EnvOKo PP EE OO.o)(hcmp:∀(x y:Pt) (W:World),Calls PP 189 (#[.agg (JU x).toArray,.agg (JU y).toArray]++#[]) W λe w'=>e=.returned (.int .i64 (cfP x y))/\∃q os',w'=grow (W.drewN q) os')(ds:List DV)(r:CR):T68 ds r->qM PP EE 68 ds r:=by
 rintro⟨s,n,rfl,rfl⟩;refine⟨enters Tryz.func68 (by kernel_rfl) (by kernel_rfl),λS w vals hg hlt hlen hv=>?_⟩
 obtain⟨i,s1,s2,af1,af2,ats,hb⟩:=body68;have hc:JC PP EE (j6 EE zB):=zAz (jo hE XX);have hD:DOK PP EE:=QE _ _ _;have hR0:=zDF (E:=EE) (fn:=Tryz.f68) hg hlt hlen (show[eSi s,eI n].length<=Tryz.f68.ntmps by simp) hv
 refine calls_of_wp Tryz.func68 hb ?_;have hret:∀(r:CR) (tgt:Option St) (T:Code) ex st' (S':Nat->Prop) (φ':Nat->Option Nat) a' w',ex≠Ex.normal->K68r r tgt ex st'=some r->Rel EE w.heap.size S' φ' st' a' w'->Grow w.heap.size S S' w w' ->
   bodyPost PP Tryz.f68 (λe w'=>∃v,e=.returned v/\zAa EE S w r v w') (zBE ex) a' w':=by
  intro r tgt T ex st' S' φ' a' w' hne hk hR hG;cases ex with
  | normal=>exact absurd rfl hne
  | exit i=>simp[K68r,zEf,bnd] at hk
  | ret =>
   obtain⟨r0,k4,k5⟩:=zA (show bnd (fin EE (EE.fresh 68) (JI EE 68) st') (λr0=>some (zCF EE (EE.fresh 68) (JI EE 68) r0))=some r from hk)
   injection k5 with k5;obtain⟨h1,v,h2,h3⟩:=Jz hD hR hG k4
   exact⟨h1,v,h2,v,rfl,k5 ▸ QL h3⟩
 by_cases hok:jM s=0/\zf n 0 7=0
 ·obtain⟨he,hn⟩:=hok;obtain⟨_,_,_,_,h64⟩:=Yz he;have eo:YI s n=(jG (J1 s n) s.tb.length,0):=by unfold YI;rw[if_pos he,if_pos hn]
  rw[eo];obtain⟨M,hex⟩:=exec68 s n _ (some (t68St (plL s n))) (run68 s n (.val (.tup [.sl 1 ((jG (J1 s n) s.tb.length).map eN),eI 0])) he hn);refine zCS hD JK hc cs68 hex hR0 (λst1 S1 φ1 a1 w1 k1 hR1 hG1=>?_) (hret _ _ .ret)
  have hle:Le [] (t68St (plL s n)) st1:=by
   unfold K68r at k1;simp only at k1;split at k1
   ·assumption
   ·cases k1
  have hR2:=hR1.le hle;have hlp:=zDt s n;have hrest:∀(S':Nat->Prop) (φ':Nat->Option Nat) (a':Act) (w':World),Rel EE w.heap.size S' φ' (t68St ((jG (J1 s n) s.tb.length).map (plP (J1 s n)))) a' w'->Grow w.heap.size S S' w w' ->
    (sq2 k68t).wp PP (bodyPost PP Tryz.f68 (λe w'=>∃v,e=.returned v/\zAa EE S w (.val (.tup [.sl 1 ((jG (J1 s n) s.tb.length).map eN),eI 0])) v w')) a' w':=by
   intro S' φ' a' w' hR' hG';obtain⟨M,ht⟩:=tail68 ((jG (J1 s n) s.tb.length).map (plP (J1 s n))) (by rw[Ad,JR];exact h64)
   rw[show(((jG (J1 s n) s.tb.length).map (plP (J1 s n))).map (·.y)).map eI=(jG (J1 s n) s.tb.length).map eN by rw[AZ,AZ];rfl] at ht
   refine YE hD JK hc (sq2 k68t) ht hR' λex st' S2 φ2 a2 w2 j1 j2 j3=>?_
   obtain⟨r0,k4,k5⟩:=zA j1;injection k5 with k5
   cases ex with
   | exit i=>simp[zEf] at k4
   | normal =>
    obtain⟨h1,v,h2,h3⟩:=Jz hD j2 (hG'.trans j3) (show fin EE (EE.fresh 68) (JI EE 68) st'=some r0 from k4)
    exact⟨h1,v,h2,v,rfl,k5 ▸ QL h3⟩
   | ret =>
    obtain⟨h1,v,h2,h3⟩:=Jz hD j2 (hG'.trans j3) (show fin EE (EE.fresh 68) (JI EE 68) st'=some r0 from k4)
    exact⟨h1,v,h2,v,rfl,k5 ▸ QL h3⟩
  have hund:=und68 ((jG (J1 s n) s.tb.length).map (plP (J1 s n)));have eg:∀args w,(callFunc 188 args).run PP w=.ok (.enter 188 args) w:=Ax Tryz.func188 (by kernel_rfl) rfl
  have hsz43:43<a1.tmps.size:=by
   have h47:(t68St (plL s n)).tm[43]? = some .undef:=by
    unfold t68St;by_cases h:plL s n=[]
    ·rw[if_pos h];kernel_rfl
    ·rw[if_neg h];kernel_rfl
   obtain⟨u,hu,_⟩:=hR2.tm 43 _ h47;exact(Ab.1 hu).1
  refine wp_seq ?_;by_cases h0:plL s n=[]
  ·have hl0:s.tb.length=0:=by rw[<-hlp,h0];rfl
   have e9:(t68St (plL s n)).tm[9]? = some (.d .nl):=by unfold t68St;rw[if_pos h0];kernel_rfl
   obtain⟨u,hu,hru⟩:=hR2.tm 9 _ e9;obtain⟨ad,rfl⟩:∃ad,u=.slice ad 0 0:=by
    have hru:RV EE.L S1 w1 .nl u:=hru;have:=(RV.rd rfl hru).1;generalize hcs:vcs u=cs at this;cases this with
    | nl ad=>exact⟨ad,zCT hru rfl rfl hcs⟩
   have hev:a1.eval (.tmp 9)=.slice ad 0 0:=by simp only[Ay,Ae,hu,Aj]
   refine call_wp hev hsz43 eg (Bp Tryz.sortPl ad 0 _ w1) λe w' ⟨h1,h2⟩=>⟨_,h1,?_⟩
   subst h2;refine hrest S1 φ1 _ w' ?_ hG1;have h3:=(hR2.put (some 43) (v:=.undef) (u:=.slice ad 0 0) trivial).put (some 44) (v:=.undef) (u:=.tuple #[]) trivial;have e3:plL s n=(jG (J1 s n) s.tb.length).map (plP (J1 s n)):=by rw[h0,hl0];rfl
   rw[e3] at h3;simp only[hund] at h3;exact h3
  ·have hlen:(jG (J1 s n) s.tb.length).length=s.tb.length:=JR _ _;have hne':(jG (J1 s n) s.tb.length).map (plP (J1 s n))≠[]:=by intro e;have:=congrArg Au e;rw[Ad,hlen,<-hlp] at this;exact h0 (AE.1 this)
   have hs41:slot (t68St (plL s n)).hp 41=some ⟨false,.dc 2 ((plL s n).map ePt)⟩:=by unfold t68St;rw[if_neg h0];kernel_rfl
   have e9:(t68St (plL s n)).tm[9]? = some (.own 41 0 ((plL s n).map ePt).length 2):=by unfold t68St;rw[if_neg h0];kernel_rfl
   obtain⟨u,hu,hru⟩:=hR2.tm 9 _ e9;obtain⟨cb,hφ,hcb,hRB,hSf⟩:=hR2.blk 41 _ hs41;obtain⟨c,rfl,hcap⟩:∃c,u=.slice (some ⟨cb,0,none⟩) (plL s n).toArray.size c/\(plL s n).length<=c:=by
    obtain⟨hr,ha⟩:RA EE.L S1 φ1 w1 (.own 41 0 ((plL s n).map ePt).length 2) (vcs u)/\J2 u=_:=hru;rw[jB ha] at hr;have hpos:((plL s n).map ePt).length≠0:=by rw[Ad];intro e;exact h0 (AE.1 e)
    generalize hm:((plL s n).map ePt).length=m at hr hpos;rw[Ad] at hm;cases hr with
    | own _ _ _ _ cb' c hb hc hr =>
     rw[hφ] at hb;injection hb with hb
     subst hb;exact⟨c,by simp[hm],by omega⟩
    | own0=>exact absurd rfl hpos
   have hev:a1.eval (.tmp 9)=.slice (some ⟨cb,0,none⟩) (plL s n).toArray.size c:=by simp only[Ay,Ae,hu,Aj]
   obtain⟨cs,t,hcs,hpre⟩:=RB.pts hRB;have eg9:∀args w,(callFunc 189 args).run PP w=.ok (.enter 189 args) w:=Ax Tryz.func189 (by kernel_rfl) rfl
   have hsort:=Bo Tryz.sortPl 2 Tryz.isAgg302 Tryz.sizeOf302 JU (λ_=>rfl) (λx v hv=>by simp[JU] at hv;rcases hv with rfl | rfl <;> rfl) cfP cfP_swo 189 #[] cb 0 c (plL s n).toArray w1
    eg9 (λm os dk _ x y=>hcmp x y _) (holds_pts hcs hpre) (Ab.1 hcs).1 (by simp[hlp];omega) zHI
   refine call_wp hev hsz43 eg hsort λe w' ⟨h1,m,os,h2⟩=>⟨_,h1,?_⟩
   have hso:(((plL s n).toArray).toList.mergeSort λx y=>!(ltOf cfP) y x)=(jG (J1 s n) s.tb.length).map (plP (J1 s n)):=zIp _ _
   rw[hso] at h2;subst h2;have hbut:But cb w1 (sortWorldK JU 2 w1 cb 0 m ((jG (J1 s n) s.tb.length).map (plP (J1 s n))).toArray os):=sortK_but hcs;have hsz:((jG (J1 s n) s.tb.length).map (plP (J1 s n))).length=(plL s n).length:=by rw[Ad,hlen,hlp]
   have hRB':RB EE.L S1 φ1 (sortWorldK JU 2 w1 cb 0 m ((jG (J1 s n) s.tb.length).map (plP (J1 s n))).toArray os) (.dc 2 (((jG (J1 s n) s.tb.length).map (plP (J1 s n))).map ePt)) cb:=by
    refine RB.of_pts (by kernel_rfl) (zGo hcs) ?_
    rw[<-zAF];refine zDm ?_;have h3:=hpre.length_le;have h4:((plL s n).map JU).flatten.length=(plL s n).length * 2:=by rw[<-zAF];simp
    rw[size_flatK,AM,hsz];have:cs.toList.length=cs.size:=rfl;omega
   have hW:=hR2.write hs41 hφ hbut hRB';have hst:(⟨(t68St (plL s n)).tm,(t68St (plL s n)).hp.set 41 (some ⟨false,.dc 2 (((jG (J1 s n) s.tb.length).map (plP (J1 s n))).map ePt)⟩)⟩:St)=t68St ((jG (J1 s n) s.tb.length).map (plP (J1 s n))):=by generalize (jG (J1 s n) s.tb.length).map (plP (J1 s n))=l' at hsz hne' ⊢;unfold t68St;rw[if_neg h0,if_neg hne',Ad,Ad,hsz];kernel_rfl
   have hW':Rel EE w.heap.size S1 φ1 (t68St ((jG (J1 s n) s.tb.length).map (plP (J1 s n)))) a1 _:=hst ▸ hW;have h3:=(hW'.put (some 43) (v:=.undef) (u:=.slice (some ⟨cb,0,none⟩) (plL s n).toArray.size c) trivial).put (some 44) (v:=.undef) (u:=.tuple #[]) trivial;simp only[hund] at h3;exact hrest S1 φ1 _ _ h3 (hG1.trans (hbut.grow hR2.lt (λh=>by simpa using hSf.1 h) hR2.base hcb))
 ·have hor:jM s≠0\/zf n 0 7≠0:=by
   by_cases he:jM s=0
   ·exact .inr λh=>hok ⟨he,h⟩
   ·exact .inl he
  have e1:(YI s n).1=[]:=by
   unfold YI;by_cases he:jM s=0
   ·rw[if_pos he,if_neg (λh=>hok ⟨he,h⟩)]
   ·rw[if_neg he]
  rw[e1];obtain⟨M,hex⟩:=exec68 s n _ none (run68e s n (.val (.tup [.sl 1 [],eI (YI s n).2])) none hor rfl);refine zCS hD JK hc cs68 hex hR0 (λst1 S1 φ1 a1 w1 k1 hR1 hG1=>?_) (hret _ _ .ret)
  unfold K68r at k1;simp[okT] at k1
end
end Go.Am
namespace Go.Am
open Go.Proofs
open Go Go.RowKit
attribute [local go_sem] Bi
theorem cell3(W:World)(o1 o2:Obj)(cs:Array Value)(t k:Nat):(((W.alloc o1).alloc o2).alloc (.cells cs t)).drew.cell? ⟨W.heap.size+1+1,k,none⟩=cs[k]?:=by
 have h:(((W.alloc o1).alloc o2).alloc (.cells cs t)).heap[((W.alloc o1).alloc o2).heap.size]? = some (.cells cs t):=World.alloc_heap_new _ _;have e:((W.alloc o1).alloc o2).heap.size=W.heap.size+1+1:=by rw[Ba,Ba]
 rw[e] at h;show A0 (World.drew _) _=_;unfold A0;rw[show(((W.alloc o1).alloc o2).alloc (.cells cs t)).drew.heap=(((W.alloc o1).alloc o2).alloc (.cells cs t)).heap from rfl,h]
 rfl
theorem post189{R:Ending->World->Prop}{a:Act}{w:World}{v:Value}(hd:a.defers=[])(h:a.tmps.getD 4 undef=v)(hR:R (.returned v) w):bodyPost Tryz.prog Tryz.f189 R .ret a w :=
 bodyPost_ret (results_tmp rfl _ _ _) hd (h ▸ hR)
set_option maxRecDepth 100000 in
set_option maxHeartbeats 4000000 in
theorem cmpPl(a i b j:Int)(W:World):Calls Tryz.prog 189 #[.agg #[.int .i64 a,.int .i64 i],.agg #[.int .i64 b,.int .i64 j]] W λe w' =>
  e=.returned (.int .i64 (orZ (zJo a b) (zJo i j)))/\∃q os',w'=Go.Sort.grow (W.drewN q) os':=by
 have hcmp:=λ(x y:Int) (W':World)=>cmp2 x y W'
 have hor:=λ(x y:Int) (b:Nat) (W':World) (h0:W'.cell? ⟨b,0,none⟩=some (.int .i64 x)) (h1:W'.cell? ⟨b,1,none⟩=some (.int .i64 y))=>or2 x y b W' h0 h1
 have mixed:Tryz.prog.follows .mixedOrders=true:=JK;generalize zJo=f at hcmp ⊢;generalize orZ=g at hor ⊢;have hor3:Calls Tryz.prog 260 #[.slice (some ⟨W.heap.size+1+1,0,none⟩) 2 2] (((W.alloc (.cells #[.int .i64 a,.int .i64 i] 302)).alloc (.cells #[.int .i64 b,.int .i64 j] 302)).alloc (.cells #[.int .i64 (f a b),.int .i64 (f i j)] 3)).drew
   λe w'=>e=.returned (.int .i64 (g (f a b) (f i j)))/\w'=(((W.alloc (.cells #[.int .i64 a,.int .i64 i] 302)).alloc (.cells #[.int .i64 b,.int .i64 j] 302)).alloc (.cells #[.int .i64 (f a b),.int .i64 (f i j)] 3)).drew :=
  hor (f a b) (f i j) _ _ ((cell3 _ _ _ _ _ _).trans rfl) ((cell3 _ _ _ _ _ _).trans rfl)
 clear hor
 go_enter Tryz.func189,Tryz.ntmps189
 go_wp2
 go_region_with (first
  | (go_at_call 261;refine(hcmp _ _ _).mono ?_;rintro e w' ⟨rfl,rfl⟩)
  | (go_at_call 260;refine hor3.mono ?_;rintro e w' ⟨rfl,rfl⟩))
 all_goals
  rename_i K ha;refine ha _ _ (wp_ret ?_);refine post189 (v:=.int .i64 (g (f a b) (f i j))) ?_ ?_ ?_
  ·rfl
  ·rfl
  ·refine⟨rfl,1,#[.cells #[.int .i64 a,.int .i64 i] 302,.cells #[.int .i64 b,.int .i64 j] 302,.cells #[.int .i64 (f a b),.int .i64 (f i j)] 3],?_⟩;rw[AF,AF,AF,A6,A6];rfl
end Go.Am
namespace Go.Am
open Go.Proofs
open Go Go.RowKit
def fOK(p:Nat×Func):Prop:=Tryz.prog.funcs[p.1]? = some p.2/\(p.2.name == "runtime.NumGoroutine")=false
theorem fOK3:fOK (3,Tryz.f3):=⟨Tryz.func3,by kernel_rfl⟩
theorem fOK4:fOK (4,Tryz.f4):=⟨Tryz.func4,by kernel_rfl⟩
theorem fOK5:fOK (5,Tryz.f5):=⟨Tryz.func5,by kernel_rfl⟩
theorem fOK6:fOK (6,Tryz.f6):=⟨Tryz.func6,by kernel_rfl⟩
theorem fOK7:fOK (7,Tryz.f7):=⟨Tryz.func7,by kernel_rfl⟩
theorem fOK8:fOK (8,Tryz.f8):=⟨Tryz.func8,by kernel_rfl⟩
theorem fOK9:fOK (9,Tryz.f9):=⟨Tryz.func9,by kernel_rfl⟩
theorem fOK10:fOK (10,Tryz.f10):=⟨Tryz.func10,by kernel_rfl⟩
theorem fOK11:fOK (11,Tryz.f11):=⟨Tryz.func11,by kernel_rfl⟩
theorem fOK12:fOK (12,Tryz.f12):=⟨Tryz.func12,by kernel_rfl⟩
theorem fOK13:fOK (13,Tryz.f13):=⟨Tryz.func13,by kernel_rfl⟩
theorem fOK14:fOK (14,Tryz.f14):=⟨Tryz.func14,by kernel_rfl⟩
theorem fOK15:fOK (15,Tryz.f15):=⟨Tryz.func15,by kernel_rfl⟩
theorem fOK16:fOK (16,Tryz.f16):=⟨Tryz.func16,by kernel_rfl⟩
theorem fOK17:fOK (17,Tryz.f17):=⟨Tryz.func17,by kernel_rfl⟩
theorem fOK18:fOK (18,Tryz.f18):=⟨Tryz.func18,by kernel_rfl⟩
theorem fOK19:fOK (19,Tryz.f19):=⟨Tryz.func19,by kernel_rfl⟩
theorem fOK20:fOK (20,Tryz.f20):=⟨Tryz.func20,by kernel_rfl⟩
theorem fOK21:fOK (21,Tryz.f21):=⟨Tryz.func21,by kernel_rfl⟩
theorem fOK22:fOK (22,Tryz.f22):=⟨Tryz.func22,by kernel_rfl⟩
theorem fOK23:fOK (23,Tryz.f23):=⟨Tryz.func23,by kernel_rfl⟩
theorem fOK24:fOK (24,Tryz.f24):=⟨Tryz.func24,by kernel_rfl⟩
theorem fOK25:fOK (25,Tryz.f25):=⟨Tryz.func25,by kernel_rfl⟩
theorem fOK26:fOK (26,Tryz.f26):=⟨Tryz.func26,by kernel_rfl⟩
theorem fOK27:fOK (27,Tryz.f27):=⟨Tryz.func27,by kernel_rfl⟩
theorem fOK28:fOK (28,Tryz.f28):=⟨Tryz.func28,by kernel_rfl⟩
theorem fOK29:fOK (29,Tryz.f29):=⟨Tryz.func29,by kernel_rfl⟩
theorem fOK30:fOK (30,Tryz.f30):=⟨Tryz.func30,by kernel_rfl⟩
theorem fOK31:fOK (31,Tryz.f31):=⟨Tryz.func31,by kernel_rfl⟩
theorem fOK32:fOK (32,Tryz.f32):=⟨Tryz.func32,by kernel_rfl⟩
theorem fOK33:fOK (33,Tryz.f33):=⟨Tryz.func33,by kernel_rfl⟩
theorem fOK34:fOK (34,Tryz.f34):=⟨Tryz.func34,by kernel_rfl⟩
theorem fOK35:fOK (35,Tryz.f35):=⟨Tryz.func35,by kernel_rfl⟩
theorem fOK36:fOK (36,Tryz.f36):=⟨Tryz.func36,by kernel_rfl⟩
theorem fOK37:fOK (37,Tryz.f37):=⟨Tryz.func37,by kernel_rfl⟩
theorem fOK38:fOK (38,Tryz.f38):=⟨Tryz.func38,by kernel_rfl⟩
theorem fOK39:fOK (39,Tryz.f39):=⟨Tryz.func39,by kernel_rfl⟩
theorem fOK40:fOK (40,Tryz.f40):=⟨Tryz.func40,by kernel_rfl⟩
theorem fOK41:fOK (41,Tryz.f41):=⟨Tryz.func41,by kernel_rfl⟩
theorem fOK42:fOK (42,Tryz.f42):=⟨Tryz.func42,by kernel_rfl⟩
theorem fOK43:fOK (43,Tryz.f43):=⟨Tryz.func43,by kernel_rfl⟩
theorem fOK44:fOK (44,Tryz.f44):=⟨Tryz.func44,by kernel_rfl⟩
theorem fOK45:fOK (45,Tryz.f45):=⟨Tryz.func45,by kernel_rfl⟩
theorem fOK46:fOK (46,Tryz.f46):=⟨Tryz.func46,by kernel_rfl⟩
theorem fOK47:fOK (47,Tryz.f47):=⟨Tryz.func47,by kernel_rfl⟩
theorem fOK48:fOK (48,Tryz.f48):=⟨Tryz.func48,by kernel_rfl⟩
theorem fOK49:fOK (49,Tryz.f49):=⟨Tryz.func49,by kernel_rfl⟩
theorem fOK50:fOK (50,Tryz.f50):=⟨Tryz.func50,by kernel_rfl⟩
theorem fOK51:fOK (51,Tryz.f51):=⟨Tryz.func51,by kernel_rfl⟩
theorem fOK52:fOK (52,Tryz.f52):=⟨Tryz.func52,by kernel_rfl⟩
theorem fOK53:fOK (53,Tryz.f53):=⟨Tryz.func53,by kernel_rfl⟩
theorem fOK54:fOK (54,Tryz.f54):=⟨Tryz.func54,by kernel_rfl⟩
theorem fOK55:fOK (55,Tryz.f55):=⟨Tryz.func55,by kernel_rfl⟩
theorem fOK56:fOK (56,Tryz.f56):=⟨Tryz.func56,by kernel_rfl⟩
theorem fOK57:fOK (57,Tryz.f57):=⟨Tryz.func57,by kernel_rfl⟩
theorem fOK58:fOK (58,Tryz.f58):=⟨Tryz.func58,by kernel_rfl⟩
theorem fOK59:fOK (59,Tryz.f59):=⟨Tryz.func59,by kernel_rfl⟩
theorem fOK60:fOK (60,Tryz.f60):=⟨Tryz.func60,by kernel_rfl⟩
theorem fOK61:fOK (61,Tryz.f61):=⟨Tryz.func61,by kernel_rfl⟩
theorem fOK62:fOK (62,Tryz.f62):=⟨Tryz.func62,by kernel_rfl⟩
theorem fOK63:fOK (63,Tryz.f63):=⟨Tryz.func63,by kernel_rfl⟩
theorem fOK64:fOK (64,Tryz.f64):=⟨Tryz.func64,by kernel_rfl⟩
theorem fOK65:fOK (65,Tryz.f65):=⟨Tryz.func65,by kernel_rfl⟩
theorem fOK66:fOK (66,Tryz.f66):=⟨Tryz.func66,by kernel_rfl⟩
theorem fOK67:fOK (67,Tryz.f67):=⟨Tryz.func67,by kernel_rfl⟩
theorem fOK68:fOK (68,Tryz.f68):=⟨Tryz.func68,by kernel_rfl⟩
theorem fOK69:fOK (69,Tryz.f69):=⟨Tryz.func69,by kernel_rfl⟩
theorem fOK70:fOK (70,Tryz.f70):=⟨Tryz.func70,by kernel_rfl⟩
theorem fOK71:fOK (71,Tryz.f71):=⟨Tryz.func71,by kernel_rfl⟩
theorem fOK72:fOK (72,Tryz.f72):=⟨Tryz.func72,by kernel_rfl⟩
theorem fOK73:fOK (73,Tryz.f73):=⟨Tryz.func73,by kernel_rfl⟩
theorem fOK74:fOK (74,Tryz.f74):=⟨Tryz.func74,by kernel_rfl⟩
theorem fOK75:fOK (75,Tryz.f75):=⟨Tryz.func75,by kernel_rfl⟩
theorem fOK76:fOK (76,Tryz.f76):=⟨Tryz.func76,by kernel_rfl⟩
theorem fOK77:fOK (77,Tryz.f77):=⟨Tryz.func77,by kernel_rfl⟩
theorem fOK78:fOK (78,Tryz.f78):=⟨Tryz.func78,by kernel_rfl⟩
theorem fOK79:fOK (79,Tryz.f79):=⟨Tryz.func79,by kernel_rfl⟩
theorem fOK80:fOK (80,Tryz.f80):=⟨Tryz.func80,by kernel_rfl⟩
theorem fOK81:fOK (81,Tryz.f81):=⟨Tryz.func81,by kernel_rfl⟩
theorem fOK82:fOK (82,Tryz.f82):=⟨Tryz.func82,by kernel_rfl⟩
theorem fOK83:fOK (83,Tryz.f83):=⟨Tryz.func83,by kernel_rfl⟩
theorem fOK84:fOK (84,Tryz.f84):=⟨Tryz.func84,by kernel_rfl⟩
theorem fOK85:fOK (85,Tryz.f85):=⟨Tryz.func85,by kernel_rfl⟩
theorem fOK86:fOK (86,Tryz.f86):=⟨Tryz.func86,by kernel_rfl⟩
theorem fOK87:fOK (87,Tryz.f87):=⟨Tryz.func87,by kernel_rfl⟩
theorem fOK88:fOK (88,Tryz.f88):=⟨Tryz.func88,by kernel_rfl⟩
theorem fOK89:fOK (89,Tryz.f89):=⟨Tryz.func89,by kernel_rfl⟩
theorem fOK90:fOK (90,Tryz.f90):=⟨Tryz.func90,by kernel_rfl⟩
theorem fOK91:fOK (91,Tryz.f91):=⟨Tryz.func91,by kernel_rfl⟩
theorem fOK92:fOK (92,Tryz.f92):=⟨Tryz.func92,by kernel_rfl⟩
theorem fOK93:fOK (93,Tryz.f93):=⟨Tryz.func93,by kernel_rfl⟩
theorem fOK94:fOK (94,Tryz.f94):=⟨Tryz.func94,by kernel_rfl⟩
theorem fOK95:fOK (95,Tryz.f95):=⟨Tryz.func95,by kernel_rfl⟩
theorem fOK96:fOK (96,Tryz.f96):=⟨Tryz.func96,by kernel_rfl⟩
theorem fOK97:fOK (97,Tryz.f97):=⟨Tryz.func97,by kernel_rfl⟩
theorem fOK98:fOK (98,Tryz.f98):=⟨Tryz.func98,by kernel_rfl⟩
theorem fOK99:fOK (99,Tryz.f99):=⟨Tryz.func99,by kernel_rfl⟩
theorem fOK100:fOK (100,Tryz.f100):=⟨Tryz.func100,by kernel_rfl⟩
theorem fOK101:fOK (101,Tryz.f101):=⟨Tryz.func101,by kernel_rfl⟩
theorem fOK102:fOK (102,Tryz.f102):=⟨Tryz.func102,by kernel_rfl⟩
theorem fOK103:fOK (103,Tryz.f103):=⟨Tryz.func103,by kernel_rfl⟩
theorem fOK104:fOK (104,Tryz.f104):=⟨Tryz.func104,by kernel_rfl⟩
theorem fOK105:fOK (105,Tryz.f105):=⟨Tryz.func105,by kernel_rfl⟩
theorem fOK106:fOK (106,Tryz.f106):=⟨Tryz.func106,by kernel_rfl⟩
theorem fOK107:fOK (107,Tryz.f107):=⟨Tryz.func107,by kernel_rfl⟩
theorem fOK108:fOK (108,Tryz.f108):=⟨Tryz.func108,by kernel_rfl⟩
theorem fOK109:fOK (109,Tryz.f109):=⟨Tryz.func109,by kernel_rfl⟩
theorem fOK110:fOK (110,Tryz.f110):=⟨Tryz.func110,by kernel_rfl⟩
theorem fOK111:fOK (111,Tryz.f111):=⟨Tryz.func111,by kernel_rfl⟩
theorem fOK112:fOK (112,Tryz.f112):=⟨Tryz.func112,by kernel_rfl⟩
theorem fOK113:fOK (113,Tryz.f113):=⟨Tryz.func113,by kernel_rfl⟩
theorem fOK114:fOK (114,Tryz.f114):=⟨Tryz.func114,by kernel_rfl⟩
theorem fOK115:fOK (115,Tryz.f115):=⟨Tryz.func115,by kernel_rfl⟩
theorem fOK116:fOK (116,Tryz.f116):=⟨Tryz.func116,by kernel_rfl⟩
theorem fOK117:fOK (117,Tryz.f117):=⟨Tryz.func117,by kernel_rfl⟩
theorem fOK118:fOK (118,Tryz.f118):=⟨Tryz.func118,by kernel_rfl⟩
theorem fOK119:fOK (119,Tryz.f119):=⟨Tryz.func119,by kernel_rfl⟩
theorem fOK120:fOK (120,Tryz.f120):=⟨Tryz.func120,by kernel_rfl⟩
theorem fOK121:fOK (121,Tryz.f121):=⟨Tryz.func121,by kernel_rfl⟩
theorem fOK122:fOK (122,Tryz.f122):=⟨Tryz.func122,by kernel_rfl⟩
theorem fOK123:fOK (123,Tryz.f123):=⟨Tryz.func123,by kernel_rfl⟩
theorem fOK124:fOK (124,Tryz.f124):=⟨Tryz.func124,by kernel_rfl⟩
theorem fOK125:fOK (125,Tryz.f125):=⟨Tryz.func125,by kernel_rfl⟩
theorem fOK126:fOK (126,Tryz.f126):=⟨Tryz.func126,by kernel_rfl⟩
theorem fOK127:fOK (127,Tryz.f127):=⟨Tryz.func127,by kernel_rfl⟩
theorem fOK128:fOK (128,Tryz.f128):=⟨Tryz.func128,by kernel_rfl⟩
theorem fOK129:fOK (129,Tryz.f129):=⟨Tryz.func129,by kernel_rfl⟩
theorem fOK130:fOK (130,Tryz.f130):=⟨Tryz.func130,by kernel_rfl⟩
theorem fOK131:fOK (131,Tryz.f131):=⟨Tryz.func131,by kernel_rfl⟩
theorem fOK132:fOK (132,Tryz.f132):=⟨Tryz.func132,by kernel_rfl⟩
theorem fOK133:fOK (133,Tryz.f133):=⟨Tryz.func133,by kernel_rfl⟩
theorem fOK134:fOK (134,Tryz.f134):=⟨Tryz.func134,by kernel_rfl⟩
theorem fOK135:fOK (135,Tryz.f135):=⟨Tryz.func135,by kernel_rfl⟩
theorem fOK136:fOK (136,Tryz.f136):=⟨Tryz.func136,by kernel_rfl⟩
theorem fOK137:fOK (137,Tryz.f137):=⟨Tryz.func137,by kernel_rfl⟩
theorem fOK138:fOK (138,Tryz.f138):=⟨Tryz.func138,by kernel_rfl⟩
theorem fOK139:fOK (139,Tryz.f139):=⟨Tryz.func139,by kernel_rfl⟩
theorem fOK142:fOK (142,Tryz.f142):=⟨Tryz.func142,by kernel_rfl⟩
theorem fOK144:fOK (144,Tryz.f144):=⟨Tryz.func144,by kernel_rfl⟩
theorem fOK145:fOK (145,Tryz.f145):=⟨Tryz.func145,by kernel_rfl⟩
theorem fOK146:fOK (146,Tryz.f146):=⟨Tryz.func146,by kernel_rfl⟩
theorem fOK147:fOK (147,Tryz.f147):=⟨Tryz.func147,by kernel_rfl⟩
theorem fOK148:fOK (148,Tryz.f148):=⟨Tryz.func148,by kernel_rfl⟩
theorem fOK149:fOK (149,Tryz.f149):=⟨Tryz.func149,by kernel_rfl⟩
theorem fOK150:fOK (150,Tryz.f150):=⟨Tryz.func150,by kernel_rfl⟩
theorem fOK151:fOK (151,Tryz.f151):=⟨Tryz.func151,by kernel_rfl⟩
theorem fOK152:fOK (152,Tryz.f152):=⟨Tryz.func152,by kernel_rfl⟩
theorem fOK153:fOK (153,Tryz.f153):=⟨Tryz.func153,by kernel_rfl⟩
theorem fOK154:fOK (154,Tryz.f154):=⟨Tryz.func154,by kernel_rfl⟩
theorem fOK155:fOK (155,Tryz.f155):=⟨Tryz.func155,by kernel_rfl⟩
theorem fOK156:fOK (156,Tryz.f156):=⟨Tryz.func156,by kernel_rfl⟩
theorem fOK157:fOK (157,Tryz.f157):=⟨Tryz.func157,by kernel_rfl⟩
theorem fOK158:fOK (158,Tryz.f158):=⟨Tryz.func158,by kernel_rfl⟩
theorem fOK159:fOK (159,Tryz.f159):=⟨Tryz.func159,by kernel_rfl⟩
theorem fOK160:fOK (160,Tryz.f160):=⟨Tryz.func160,by kernel_rfl⟩
theorem fOK161:fOK (161,Tryz.f161):=⟨Tryz.func161,by kernel_rfl⟩
theorem fOK162:fOK (162,Tryz.f162):=⟨Tryz.func162,by kernel_rfl⟩
theorem fOK163:fOK (163,Tryz.f163):=⟨Tryz.func163,by kernel_rfl⟩
theorem fOK164:fOK (164,Tryz.f164):=⟨Tryz.func164,by kernel_rfl⟩
theorem fOK165:fOK (165,Tryz.f165):=⟨Tryz.func165,by kernel_rfl⟩
theorem fOK166:fOK (166,Tryz.f166):=⟨Tryz.func166,by kernel_rfl⟩
theorem fOK167:fOK (167,Tryz.f167):=⟨Tryz.func167,by kernel_rfl⟩
theorem fOK168:fOK (168,Tryz.f168):=⟨Tryz.func168,by kernel_rfl⟩
theorem fOK169:fOK (169,Tryz.f169):=⟨Tryz.func169,by kernel_rfl⟩
theorem fOK170:fOK (170,Tryz.f170):=⟨Tryz.func170,by kernel_rfl⟩
theorem fOK171:fOK (171,Tryz.f171):=⟨Tryz.func171,by kernel_rfl⟩
theorem fOK172:fOK (172,Tryz.f172):=⟨Tryz.func172,by kernel_rfl⟩
theorem fOK173:fOK (173,Tryz.f173):=⟨Tryz.func173,by kernel_rfl⟩
theorem fOK174:fOK (174,Tryz.f174):=⟨Tryz.func174,by kernel_rfl⟩
theorem fOK175:fOK (175,Tryz.f175):=⟨Tryz.func175,by kernel_rfl⟩
theorem fOK176:fOK (176,Tryz.f176):=⟨Tryz.func176,by kernel_rfl⟩
theorem fOK177:fOK (177,Tryz.f177):=⟨Tryz.func177,by kernel_rfl⟩
theorem fOK178:fOK (178,Tryz.f178):=⟨Tryz.func178,by kernel_rfl⟩
theorem fOK179:fOK (179,Tryz.f179):=⟨Tryz.func179,by kernel_rfl⟩
theorem fOK180:fOK (180,Tryz.f180):=⟨Tryz.func180,by kernel_rfl⟩
theorem fOK181:fOK (181,Tryz.f181):=⟨Tryz.func181,by kernel_rfl⟩
theorem fOK182:fOK (182,Tryz.f182):=⟨Tryz.func182,by kernel_rfl⟩
theorem fOK183:fOK (183,Tryz.f183):=⟨Tryz.func183,by kernel_rfl⟩
theorem fOK184:fOK (184,Tryz.f184):=⟨Tryz.func184,by kernel_rfl⟩
theorem fOK185:fOK (185,Tryz.f185):=⟨Tryz.func185,by kernel_rfl⟩
theorem fOK186:fOK (186,Tryz.f186):=⟨Tryz.func186,by kernel_rfl⟩
theorem fOK187:fOK (187,Tryz.f187):=⟨Tryz.func187,by kernel_rfl⟩
theorem fOK188:fOK (188,Tryz.f188):=⟨Tryz.func188,by kernel_rfl⟩
theorem fOK189:fOK (189,Tryz.f189):=⟨Tryz.func189,by kernel_rfl⟩
theorem fOK190:fOK (190,Tryz.f190):=⟨Tryz.func190,by kernel_rfl⟩
theorem fOK191:fOK (191,Tryz.f191):=⟨Tryz.func191,by kernel_rfl⟩
theorem fOK192:fOK (192,Tryz.f192):=⟨Tryz.func192,by kernel_rfl⟩
theorem fOK193:fOK (193,Tryz.f193):=⟨Tryz.func193,by kernel_rfl⟩
theorem fOK194:fOK (194,Tryz.f194):=⟨Tryz.func194,by kernel_rfl⟩
theorem fOK195:fOK (195,Tryz.f195):=⟨Tryz.func195,by kernel_rfl⟩
theorem fOK196:fOK (196,Tryz.f196):=⟨Tryz.func196,by kernel_rfl⟩
theorem fOK197:fOK (197,Tryz.f197):=⟨Tryz.func197,by kernel_rfl⟩
theorem fOK198:fOK (198,Tryz.f198):=⟨Tryz.func198,by kernel_rfl⟩
theorem fOK199:fOK (199,Tryz.f199):=⟨Tryz.func199,by kernel_rfl⟩
theorem fOK200:fOK (200,Tryz.f200):=⟨Tryz.func200,by kernel_rfl⟩
theorem fOK201:fOK (201,Tryz.f201):=⟨Tryz.func201,by kernel_rfl⟩
theorem fOK202:fOK (202,Tryz.f202):=⟨Tryz.func202,by kernel_rfl⟩
theorem fOK203:fOK (203,Tryz.f203):=⟨Tryz.func203,by kernel_rfl⟩
theorem fOK204:fOK (204,Tryz.f204):=⟨Tryz.func204,by kernel_rfl⟩
theorem fOK205:fOK (205,Tryz.f205):=⟨Tryz.func205,by kernel_rfl⟩
theorem fOK206:fOK (206,Tryz.f206):=⟨Tryz.func206,by kernel_rfl⟩
theorem fOK207:fOK (207,Tryz.f207):=⟨Tryz.func207,by kernel_rfl⟩
theorem fOK209:fOK (209,Tryz.f209):=⟨Tryz.func209,by kernel_rfl⟩
theorem fOK213:fOK (213,Tryz.f213):=⟨Tryz.func213,by kernel_rfl⟩
theorem fOK214:fOK (214,Tryz.f214):=⟨Tryz.func214,by kernel_rfl⟩
theorem fOK215:fOK (215,Tryz.f215):=⟨Tryz.func215,by kernel_rfl⟩
theorem fOK216:fOK (216,Tryz.f216):=⟨Tryz.func216,by kernel_rfl⟩
theorem fOK217:fOK (217,Tryz.f217):=⟨Tryz.func217,by kernel_rfl⟩
theorem fOK218:fOK (218,Tryz.f218):=⟨Tryz.func218,by kernel_rfl⟩
theorem fOK219:fOK (219,Tryz.f219):=⟨Tryz.func219,by kernel_rfl⟩
theorem fOK221:fOK (221,Tryz.f221):=⟨Tryz.func221,by kernel_rfl⟩
theorem fOK222:fOK (222,Tryz.f222):=⟨Tryz.func222,by kernel_rfl⟩
theorem fOK223:fOK (223,Tryz.f223):=⟨Tryz.func223,by kernel_rfl⟩
theorem fOK224:fOK (224,Tryz.f224):=⟨Tryz.func224,by kernel_rfl⟩
theorem fOK225:fOK (225,Tryz.f225):=⟨Tryz.func225,by kernel_rfl⟩
theorem fOK226:fOK (226,Tryz.f226):=⟨Tryz.func226,by kernel_rfl⟩
theorem fOK227:fOK (227,Tryz.f227):=⟨Tryz.func227,by kernel_rfl⟩
theorem fOK228:fOK (228,Tryz.f228):=⟨Tryz.func228,by kernel_rfl⟩
theorem fOK230:fOK (230,Tryz.f230):=⟨Tryz.func230,by kernel_rfl⟩
theorem fOK231:fOK (231,Tryz.f231):=⟨Tryz.func231,by kernel_rfl⟩
theorem fOK232:fOK (232,Tryz.f232):=⟨Tryz.func232,by kernel_rfl⟩
theorem fOK233:fOK (233,Tryz.f233):=⟨Tryz.func233,by kernel_rfl⟩
theorem fOK234:fOK (234,Tryz.f234):=⟨Tryz.func234,by kernel_rfl⟩
theorem fOK235:fOK (235,Tryz.f235):=⟨Tryz.func235,by kernel_rfl⟩
theorem fOK236:fOK (236,Tryz.f236):=⟨Tryz.func236,by kernel_rfl⟩
theorem fOK237:fOK (237,Tryz.f237):=⟨Tryz.func237,by kernel_rfl⟩
theorem fOK238:fOK (238,Tryz.f238):=⟨Tryz.func238,by kernel_rfl⟩
theorem fOK239:fOK (239,Tryz.f239):=⟨Tryz.func239,by kernel_rfl⟩
theorem fOK240:fOK (240,Tryz.f240):=⟨Tryz.func240,by kernel_rfl⟩
theorem fOK241:fOK (241,Tryz.f241):=⟨Tryz.func241,by kernel_rfl⟩
theorem fOK242:fOK (242,Tryz.f242):=⟨Tryz.func242,by kernel_rfl⟩
theorem fOK243:fOK (243,Tryz.f243):=⟨Tryz.func243,by kernel_rfl⟩
theorem fOK244:fOK (244,Tryz.f244):=⟨Tryz.func244,by kernel_rfl⟩
theorem fOK245:fOK (245,Tryz.f245):=⟨Tryz.func245,by kernel_rfl⟩
theorem fOK246:fOK (246,Tryz.f246):=⟨Tryz.func246,by kernel_rfl⟩
theorem fOK247:fOK (247,Tryz.f247):=⟨Tryz.func247,by kernel_rfl⟩
theorem fOK248:fOK (248,Tryz.f248):=⟨Tryz.func248,by kernel_rfl⟩
theorem fOK249:fOK (249,Tryz.f249):=⟨Tryz.func249,by kernel_rfl⟩
theorem fOK250:fOK (250,Tryz.f250):=⟨Tryz.func250,by kernel_rfl⟩
theorem fOK251:fOK (251,Tryz.f251):=⟨Tryz.func251,by kernel_rfl⟩
theorem fOK252:fOK (252,Tryz.f252):=⟨Tryz.func252,by kernel_rfl⟩
theorem fOK253:fOK (253,Tryz.f253):=⟨Tryz.func253,by kernel_rfl⟩
theorem fOK254:fOK (254,Tryz.f254):=⟨Tryz.func254,by kernel_rfl⟩
theorem fOK255:fOK (255,Tryz.f255):=⟨Tryz.func255,by kernel_rfl⟩
theorem fOK256:fOK (256,Tryz.f256):=⟨Tryz.func256,by kernel_rfl⟩
theorem fOK257:fOK (257,Tryz.f257):=⟨Tryz.func257,by kernel_rfl⟩
theorem fOK258:fOK (258,Tryz.f258):=⟨Tryz.func258,by kernel_rfl⟩
theorem fOK262:fOK (262,Tryz.f262):=⟨Tryz.func262,by kernel_rfl⟩
theorem fOK263:fOK (263,Tryz.f263):=⟨Tryz.func263,by kernel_rfl⟩
theorem fOK264:fOK (264,Tryz.f264):=⟨Tryz.func264,by kernel_rfl⟩
theorem fOK265:fOK (265,Tryz.f265):=⟨Tryz.func265,by kernel_rfl⟩
theorem fOK266:fOK (266,Tryz.f266):=⟨Tryz.func266,by kernel_rfl⟩
theorem fOK267:fOK (267,Tryz.f267):=⟨Tryz.func267,by kernel_rfl⟩
theorem fOK276:fOK (276,Tryz.f276):=⟨Tryz.func276,by kernel_rfl⟩
theorem fOK277:fOK (277,Tryz.f277):=⟨Tryz.func277,by kernel_rfl⟩
theorem fOK279:fOK (279,Tryz.f279):=⟨Tryz.func279,by kernel_rfl⟩
theorem fOK280:fOK (280,Tryz.f280):=⟨Tryz.func280,by kernel_rfl⟩
theorem fOK281:fOK (281,Tryz.f281):=⟨Tryz.func281,by kernel_rfl⟩
theorem fOK282:fOK (282,Tryz.f282):=⟨Tryz.func282,by kernel_rfl⟩
theorem fOK283:fOK (283,Tryz.f283):=⟨Tryz.func283,by kernel_rfl⟩
theorem fOK284:fOK (284,Tryz.f284):=⟨Tryz.func284,by kernel_rfl⟩
theorem fOK285:fOK (285,Tryz.f285):=⟨Tryz.func285,by kernel_rfl⟩
theorem fOK286:fOK (286,Tryz.f286):=⟨Tryz.func286,by kernel_rfl⟩
theorem fOK287:fOK (287,Tryz.f287):=⟨Tryz.func287,by kernel_rfl⟩
theorem fOK288:fOK (288,Tryz.f288):=⟨Tryz.func288,by kernel_rfl⟩
theorem fOK289:fOK (289,Tryz.f289):=⟨Tryz.func289,by kernel_rfl⟩
theorem fOK290:fOK (290,Tryz.f290):=⟨Tryz.func290,by kernel_rfl⟩
theorem fOK291:fOK (291,Tryz.f291):=⟨Tryz.func291,by kernel_rfl⟩
theorem fOK292:fOK (292,Tryz.f292):=⟨Tryz.func292,by kernel_rfl⟩
theorem fOK293:fOK (293,Tryz.f293):=⟨Tryz.func293,by kernel_rfl⟩
theorem fOK294:fOK (294,Tryz.f294):=⟨Tryz.func294,by kernel_rfl⟩
theorem fOK295:fOK (295,Tryz.f295):=⟨Tryz.func295,by kernel_rfl⟩
theorem fOK296:fOK (296,Tryz.f296):=⟨Tryz.func296,by kernel_rfl⟩
theorem fOK297:fOK (297,Tryz.f297):=⟨Tryz.func297,by kernel_rfl⟩
theorem fOK298:fOK (298,Tryz.f298):=⟨Tryz.func298,by kernel_rfl⟩
theorem fOK299:fOK (299,Tryz.f299):=⟨Tryz.func299,by kernel_rfl⟩
theorem fOK300:fOK (300,Tryz.f300):=⟨Tryz.func300,by kernel_rfl⟩
theorem fOK301:fOK (301,Tryz.f301):=⟨Tryz.func301,by kernel_rfl⟩
theorem fOK302:fOK (302,Tryz.f302):=⟨Tryz.func302,by kernel_rfl⟩
theorem fOK303:fOK (303,Tryz.f303):=⟨Tryz.func303,by kernel_rfl⟩
theorem fOK304:fOK (304,Tryz.f304):=⟨Tryz.func304,by kernel_rfl⟩
theorem fOK305:fOK (305,Tryz.f305):=⟨Tryz.func305,by kernel_rfl⟩
theorem fOK306:fOK (306,Tryz.f306):=⟨Tryz.func306,by kernel_rfl⟩
theorem fOK307:fOK (307,Tryz.f307):=⟨Tryz.func307,by kernel_rfl⟩
theorem fOK308:fOK (308,Tryz.f308):=⟨Tryz.func308,by kernel_rfl⟩
theorem fOK327:fOK (327,Tryz.f327):=⟨Tryz.func327,by kernel_rfl⟩
theorem fOK328:fOK (328,Tryz.f328):=⟨Tryz.func328,by kernel_rfl⟩
theorem fOK329:fOK (329,Tryz.f329):=⟨Tryz.func329,by kernel_rfl⟩
theorem fOK330:fOK (330,Tryz.f330):=⟨Tryz.func330,by kernel_rfl⟩
theorem fOK331:fOK (331,Tryz.f331):=⟨Tryz.func331,by kernel_rfl⟩
theorem fOK332:fOK (332,Tryz.f332):=⟨Tryz.func332,by kernel_rfl⟩
theorem fOK333:fOK (333,Tryz.f333):=⟨Tryz.func333,by kernel_rfl⟩
theorem fOK334:fOK (334,Tryz.f334):=⟨Tryz.func334,by kernel_rfl⟩
theorem fOK335:fOK (335,Tryz.f335):=⟨Tryz.func335,by kernel_rfl⟩
theorem fOK336:fOK (336,Tryz.f336):=⟨Tryz.func336,by kernel_rfl⟩
theorem fOK337:fOK (337,Tryz.f337):=⟨Tryz.func337,by kernel_rfl⟩
theorem fOK338:fOK (338,Tryz.f338):=⟨Tryz.func338,by kernel_rfl⟩
theorem fOK339:fOK (339,Tryz.f339):=⟨Tryz.func339,by kernel_rfl⟩
theorem fOK340:fOK (340,Tryz.f340):=⟨Tryz.func340,by kernel_rfl⟩
theorem fOK341:fOK (341,Tryz.f341):=⟨Tryz.func341,by kernel_rfl⟩
theorem fOK343:fOK (343,Tryz.f343):=⟨Tryz.func343,by kernel_rfl⟩
theorem fOK344:fOK (344,Tryz.f344):=⟨Tryz.func344,by kernel_rfl⟩
theorem fOK365:fOK (365,Tryz.f365):=⟨Tryz.func365,by kernel_rfl⟩
theorem fOK366:fOK (366,Tryz.f366):=⟨Tryz.func366,by kernel_rfl⟩
theorem fOK367:fOK (367,Tryz.f367):=⟨Tryz.func367,by kernel_rfl⟩
theorem fOK368:fOK (368,Tryz.f368):=⟨Tryz.func368,by kernel_rfl⟩
theorem fOK369:fOK (369,Tryz.f369):=⟨Tryz.func369,by kernel_rfl⟩
theorem fOK370:fOK (370,Tryz.f370):=⟨Tryz.func370,by kernel_rfl⟩
theorem fOK372:fOK (372,Tryz.f372):=⟨Tryz.func372,by kernel_rfl⟩
theorem fOK373:fOK (373,Tryz.f373):=⟨Tryz.func373,by kernel_rfl⟩
theorem fOK374:fOK (374,Tryz.f374):=⟨Tryz.func374,by kernel_rfl⟩
theorem fOK375:fOK (375,Tryz.f375):=⟨Tryz.func375,by kernel_rfl⟩
theorem fOK376:fOK (376,Tryz.f376):=⟨Tryz.func376,by kernel_rfl⟩
theorem fOK377:fOK (377,Tryz.f377):=⟨Tryz.func377,by kernel_rfl⟩
theorem fOK378:fOK (378,Tryz.f378):=⟨Tryz.func378,by kernel_rfl⟩
theorem fOK379:fOK (379,Tryz.f379):=⟨Tryz.func379,by kernel_rfl⟩
theorem fOK393:fOK (393,Tryz.f393):=⟨Tryz.func393,by kernel_rfl⟩
theorem fOK394:fOK (394,Tryz.f394):=⟨Tryz.func394,by kernel_rfl⟩
theorem fOK395:fOK (395,Tryz.f395):=⟨Tryz.func395,by kernel_rfl⟩
theorem fOK396:fOK (396,Tryz.f396):=⟨Tryz.func396,by kernel_rfl⟩
theorem fOK403:fOK (403,Tryz.f403):=⟨Tryz.func403,by kernel_rfl⟩
theorem fOK208:fOK (208,Tryz.f208):=⟨Tryz.func208,by kernel_rfl⟩
theorem fOK210:fOK (210,Tryz.f210):=⟨Tryz.func210,by kernel_rfl⟩
theorem fOK211:fOK (211,Tryz.f211):=⟨Tryz.func211,by kernel_rfl⟩
theorem fOK212:fOK (212,Tryz.f212):=⟨Tryz.func212,by kernel_rfl⟩
theorem fOK220:fOK (220,Tryz.f220):=⟨Tryz.func220,by kernel_rfl⟩
theorem fOK260:fOK (260,Tryz.f260):=⟨Tryz.func260,by kernel_rfl⟩
theorem fOK261:fOK (261,Tryz.f261):=⟨Tryz.func261,by kernel_rfl⟩
theorem fOK311:fOK (311,Tryz.f311):=⟨Tryz.func311,by kernel_rfl⟩
theorem nil_ok:∀q∈([]:List (Nat×Func)),fOK q:=λq h=>by cases h
theorem zE{p:Nat×Func}{l:List (Nat×Func)}(h:fOK p)(t:∀q∈l,fOK q):∀q∈p :: l,fOK q:=λq hq=>by
 rcases AU.1 hq with rfl | hq
 ·exact h
 ·exact t q hq
set_option maxRecDepth 100000 in
theorem fTab_ok:∀p∈fTab,fOK p :=
 zE fOK3 (zE fOK4 (zE fOK5 (zE fOK6 (zE fOK7 (zE fOK8 (zE fOK9 (zE fOK10 (zE fOK11 (zE fOK12 (
 zE fOK13 (zE fOK14 (zE fOK15 (zE fOK16 (zE fOK17 (zE fOK18 (zE fOK19 (zE fOK20 (zE fOK21 (zE fOK22 (
 zE fOK23 (zE fOK24 (zE fOK25 (zE fOK26 (zE fOK27 (zE fOK28 (zE fOK29 (zE fOK30 (zE fOK31 (zE fOK32 (
 zE fOK33 (zE fOK34 (zE fOK35 (zE fOK36 (zE fOK37 (zE fOK38 (zE fOK39 (zE fOK40 (zE fOK41 (zE fOK42 (
 zE fOK43 (zE fOK44 (zE fOK45 (zE fOK46 (zE fOK47 (zE fOK48 (zE fOK49 (zE fOK50 (zE fOK51 (zE fOK52 (
 zE fOK53 (zE fOK54 (zE fOK55 (zE fOK56 (zE fOK57 (zE fOK58 (zE fOK59 (zE fOK60 (zE fOK61 (zE fOK62 (
 zE fOK63 (zE fOK64 (zE fOK65 (zE fOK66 (zE fOK67 (zE fOK68 (zE fOK69 (zE fOK70 (zE fOK71 (zE fOK72 (
 zE fOK73 (zE fOK74 (zE fOK75 (zE fOK76 (zE fOK77 (zE fOK78 (zE fOK79 (zE fOK80 (zE fOK81 (zE fOK82 (
 zE fOK83 (zE fOK84 (zE fOK85 (zE fOK86 (zE fOK87 (zE fOK88 (zE fOK89 (zE fOK90 (zE fOK91 (zE fOK92 (
 zE fOK93 (zE fOK94 (zE fOK95 (zE fOK96 (zE fOK97 (zE fOK98 (zE fOK99 (zE fOK100 (zE fOK101 (zE fOK102 (
 zE fOK103 (zE fOK104 (zE fOK105 (zE fOK106 (zE fOK107 (zE fOK108 (zE fOK109 (zE fOK110 (zE fOK111 (zE fOK112 (
 zE fOK113 (zE fOK114 (zE fOK115 (zE fOK116 (zE fOK117 (zE fOK118 (zE fOK119 (zE fOK120 (zE fOK121 (zE fOK122 (
 zE fOK123 (zE fOK124 (zE fOK125 (zE fOK126 (zE fOK127 (zE fOK128 (zE fOK129 (zE fOK130 (zE fOK131 (zE fOK132 (
 zE fOK133 (zE fOK134 (zE fOK135 (zE fOK136 (zE fOK137 (zE fOK138 (zE fOK139 (zE fOK142 (zE fOK144 (zE fOK145 (
 zE fOK146 (zE fOK147 (zE fOK148 (zE fOK149 (zE fOK150 (zE fOK151 (zE fOK152 (zE fOK153 (zE fOK154 (zE fOK155 (
 zE fOK156 (zE fOK157 (zE fOK158 (zE fOK159 (zE fOK160 (zE fOK161 (zE fOK162 (zE fOK163 (zE fOK164 (zE fOK165 (
 zE fOK166 (zE fOK167 (zE fOK168 (zE fOK169 (zE fOK170 (zE fOK171 (zE fOK172 (zE fOK173 (zE fOK174 (zE fOK175 (
 zE fOK176 (zE fOK177 (zE fOK178 (zE fOK179 (zE fOK180 (zE fOK181 (zE fOK182 (zE fOK183 (zE fOK184 (zE fOK185 (
 zE fOK186 (zE fOK187 (zE fOK188 (zE fOK189 (zE fOK190 (zE fOK191 (zE fOK192 (zE fOK193 (zE fOK194 (zE fOK195 (
 zE fOK196 (zE fOK197 (zE fOK198 (zE fOK199 (zE fOK200 (zE fOK201 (zE fOK202 (zE fOK203 (zE fOK204 (zE fOK205 (
 zE fOK206 (zE fOK207 (zE fOK209 (zE fOK213 (zE fOK214 (zE fOK215 (zE fOK216 (zE fOK217 (zE fOK218 (zE fOK219 (
 zE fOK221 (zE fOK222 (zE fOK223 (zE fOK224 (zE fOK225 (zE fOK226 (zE fOK227 (zE fOK228 (zE fOK230 (zE fOK231 (
 zE fOK232 (zE fOK233 (zE fOK234 (zE fOK235 (zE fOK236 (zE fOK237 (zE fOK238 (zE fOK239 (zE fOK240 (zE fOK241 (
 zE fOK242 (zE fOK243 (zE fOK244 (zE fOK245 (zE fOK246 (zE fOK247 (zE fOK248 (zE fOK249 (zE fOK250 (zE fOK251 (
 zE fOK252 (zE fOK253 (zE fOK254 (zE fOK255 (zE fOK256 (zE fOK257 (zE fOK258 (zE fOK262 (zE fOK263 (zE fOK264 (
 zE fOK265 (zE fOK266 (zE fOK267 (zE fOK276 (zE fOK277 (zE fOK279 (zE fOK280 (zE fOK281 (zE fOK282 (zE fOK283 (
 zE fOK284 (zE fOK285 (zE fOK286 (zE fOK287 (zE fOK288 (zE fOK289 (zE fOK290 (zE fOK291 (zE fOK292 (zE fOK293 (
 zE fOK294 (zE fOK295 (zE fOK296 (zE fOK297 (zE fOK298 (zE fOK299 (zE fOK300 (zE fOK301 (zE fOK302 (zE fOK303 (
 zE fOK304 (zE fOK305 (zE fOK306 (zE fOK307 (zE fOK308 (zE fOK327 (zE fOK328 (zE fOK329 (zE fOK330 (zE fOK331 (
 zE fOK332 (zE fOK333 (zE fOK334 (zE fOK335 (zE fOK336 (zE fOK337 (zE fOK338 (zE fOK339 (zE fOK340 (zE fOK341 (
 zE fOK343 (zE fOK344 (zE fOK365 (zE fOK366 (zE fOK367 (zE fOK368 (zE fOK369 (zE fOK370 (zE fOK372 (zE fOK373 (
 zE fOK374 (zE fOK375 (zE fOK376 (zE fOK377 (zE fOK378 (zE fOK379 (zE fOK393 (zE fOK394 (zE fOK395 (zE fOK396 (
 zE fOK403 (zE fOK208 (zE fOK210 (zE fOK211 (zE fOK212 (zE fOK220 (zE fOK260 (zE fOK261 (zE fOK311 (nil_ok)))))))))))))))))))))))))))))))))))))))))))))))))))))))))))))))))))))))))))))))))))))))))))))))))))))))))))))))))))))))))))))))))))))))))))))))))))))))))))))))))))))))))))))))))))))))))))))))))))))))))))))))))))))))))))))))))))))))))))))))))))))))))))))))))))))))))))))))))))))))))))))))))))))))))))))))))))))))))))))))))))))))))
set_option maxRecDepth 100000 in
theorem E0_F(steps:Nat)(fresh:FuncId->Bool)(orc:FuncId->Option (List DV->Option CR))(f:FuncId)(fn:Func)(h:(E0 steps fresh orc).F f=some fn):Tryz.prog.funcs[f]? = some fn/\(fn.name == "runtime.NumGoroutine")=false :=
 fTab_ok _ (qx h)
end Go.Am
namespace Go.Am
open Go.Proofs
open Go Go.RowKit
theorem Y7{a b:Int}(h:eI a=eI b):a=b:=by injection h
theorem QI{α:Type}{e:α->DV}(he:∀a b,e a=e b->a=b):∀{l l':List α},l.map e=l'.map e->l=l'
 | [],[],_=>rfl
 | [],_ :: _,h=>by simp at h
 | _ :: _,[],h=>by simp at h
 | a :: l,b :: l',h=>by simp only[List.map_cons,List.cons.injEq] at h;rw[he a b h.1,QI he h.2]
theorem Jk{a b:DV}(h:a=b)(i:Nat):nth (flds a) i=nth (flds b) i:=by rw[h]
theorem Qd{k:Nat}{a b:List DV}(h:DV.sl k a=DV.sl k b):a=b:=by injection h
theorem zBZ{l l':List Int}(h:l.map eI=l'.map eI):l=l':=QI (λ_ _ h=>Y7 h) h
theorem zEk(a b:Pt)(h:ePt a=ePt b):a=b:=by have h0:a.x=b.x:=Y7 (Jk h 0);have h1:a.y=b.y:=Y7 (Jk h 1);cases a;cases b;simp only at h0 h1;rw[h0,h1]
theorem eWk_inj(a b:Wk)(h:eWk a=eWk b):a=b:=by
 have h0:DV.str a.rule=DV.str b.rule:=Jk h 0;have h1:a.d=b.d:=zBZ (Qd (Jk h 1));have h2:a.w=b.w:=zBZ (Qd (Jk h 2));injection h0 with h0
 cases a;cases b;simp only at h0 h1 h2;rw[h0,h1,h2]
theorem eCu_inj(a b:Cu)(h:eCu a=eCu b):a=b:=by have h0:a.p=b.p:=zBZ (Qd (Jk h 0));have h1:a.cut=b.cut:=Y7 (Jk h 1);cases a;cases b;simp only at h0 h1;rw[h0,h1]
theorem eRow_inj(a b:List Int)(h:jC a=jC b):a=b:=by have h:a.map eI=b.map eI:=congrArg flds h;exact zBZ h
theorem eTb_inj(a b:Tb)(h:eTb a=eTb b):a=b:=by
 have h0:DV.str a.name=DV.str b.name:=Jk h 0;have h1:a.at'=b.at':=zEk _ _ (Jk h 1);injection h0 with h0
 cases a;cases b;simp only at h0 h1;rw[h0,h1]
theorem eSi_inj(a b:Si)(h:eSi a=eSi b):a=b:=by
 have h0:DV.str a.name=DV.str b.name:=Jk h 0;have h1:a.least=b.least:=Y7 (Jk h 1);have h2:a.tb=b.tb:=QI eTb_inj (Qd (Jk h 2));injection h0 with h0
 cases a;cases b;simp only at h0 h1 h2;rw[h0,h1,h2]
theorem zEl(a b:Pn)(h:ePn a=ePn b):a=b:=by have h0:a.ps=b.ps:=QI zEk (Qd (Jk h 0));have h1:a.least=b.least:=Y7 (Jk h 1);have h2:a.w=b.w:=eWk_inj _ _ (Jk h 2);have h3:a.c=b.c:=eCu_inj _ _ (Jk h 3);have h4':eRo a.r=eRo b.r:=Jk h 4;have h4:a.r=b.r:=QI eRow_inj (congrArg flds h4');cases a;cases b;simp only at h0 h1 h2 h3 h4;rw[h0,h1,h2,h3,h4]
theorem eStr_inj{l l':List ByteArray}(h:l.map DV.str=l'.map DV.str):l=l':=QI (λ_ _ h=>by injection h) h
abbrev oo1:OO:=⟨λ_=>none,λ_ _=>rfl⟩
theorem env1:EnvOKo PP EE oo1.o:=⟨QE _ _ _,JK,λf fn h=>E0_F _ _ _ f fn h,λf g h=>by cases h⟩
noncomputable def orc2(f:FuncId):Option (List DV->Option CR):=match f with
 | 243=>some (orT T243)
 | 210=>some (orT T210)
 | 208=>some (orT T208)
 | 161=>some (orT T161)
 | 200=>some (orT T200)
 | 68=>some (orT T68)
 | _=>none
theorem orc2_ok(f:FuncId)(h:(zGK f).isNone=true):orc2 f=none:=by unfold orc2;split <;> first | rfl | (exfalso;revert h;simp[zGK])
noncomputable abbrev oo2:OO:=⟨orc2,orc2_ok⟩
theorem env2:EnvOKo PP EE oo2.o:=by
 refine⟨QE _ _ _,JK,λf fn h=>E0_F _ _ _ f fn h,λf g h=>?_⟩
 have h:orc2 f=some g:=h;unfold orc2 at h;split at h
 ·injection h with h;subst h;exact Qk at243
 ·injection h with h;subst h;exact Qk at210
 ·injection h with h;subst h;exact Qk at208
 ·injection h with h;subst h;exact Qk (@at161 oo1 env1)
 ·injection h with h;subst h;exact Qk (@at200 oo1 env1)
 ·injection h with h;subst h;exact Qk (@at68 oo1 env1 λx y W=>cmpPl x.x x.y y.x y.y W)
 ·cases h
section
variable{o:OO}
theorem J9{f:FuncId}{T:List DV->CR->Prop}(h:o.o f=some (orT T)){ds:List DV}{r:CR}(h1:T ds r)(hu:∀r',T ds r'->r'=r):@zB o f ds=some r:=(@callQ_orc o f _ h ds).trans (orT_of h1 hu)
theorem zIN(h:o.o 200=some (orT T200)):@KnW o:=@KnW.mk o λw ps sec st h1 h2 h3 h4 h5=>by
 refine J9 h ⟨w,ps,sec,st,h1,h2,h3,h4,h5,rfl,rfl⟩ ?_;rintro r' ⟨w',ps',sec',st',_,_,_,_,_,e,rfl⟩;injection e with e1 e
 injection e with e2 e;injection e with e3 _
 have e4:sec=sec':=Y7 (Jk e3 0);have e5:st=st':=zEk _ _ (Jk e3 1);rw[eWk_inj _ _ e1,QI zEk (Qd e2),e4,e5]
theorem knO_of(h:o.o 68=some (orT T68)):@KnO o:=@KnO.mk o λs n=>by
 refine J9 h ⟨s,n,rfl,rfl⟩ ?_;rintro r' ⟨s',n',e,rfl⟩;injection e with e1 e
 injection e with e2 _;rw[eSi_inj _ _ e1,Y7 e2]
theorem zIO(h1:o.o 243=some (orT T243))(h2:o.o 161=some (orT T161))(h3:o.o 210=some (orT T210))(h4:o.o 208=some (orT T208)):@KnS o:=@KnS.mk o
 (λl hl=>J9 h1 ⟨l,hl,rfl,rfl⟩ (by
  rintro r' ⟨l',_,e,rfl⟩;injection e with e _
  rw[zBZ (Qd e)]))
 (λp a1 a2 a3 a4 a5=>J9 h2 ⟨p,a1,a2,a3,a4,a5,rfl,rfl⟩ (by
  rintro r' ⟨p',_,_,_,_,_,e,rfl⟩;injection e with e _
  rw[zEl _ _ e]))
 (λn a1 a2=>J9 h3 ⟨n,a1,a2,rfl,rfl⟩ (by
  rintro r' ⟨n',_,_,e,rfl⟩;injection e with e _
  rw[Y7 e]))
 (λl s a1 a2 a3=>J9 h4 ⟨l,s,a1,a2,a3,rfl,rfl⟩ (by
  rintro r' ⟨l',s',_,_,_,e,rfl⟩;injection e with e1 e
  injection e with e2 _;injection e2 with e2
  rw[eStr_inj (Qd e1),e2]))
end
theorem knW2:@KnW oo2:=zIN rfl
theorem knS2:@KnS oo2:=zIO rfl rfl rfl rfl
end Go.Am
namespace Go.Am
open Go.Proofs
open Go
variable[OO]
def S170_0a(v0:List DV)(v1 v2:Int)(v3:List DV)(v4:Int)(v5:ByteArray)(v6 v7 v8:List DV)(v9:Int)(v10 v11 v12:List DV):St :=
 zr 54 [(2,(.ptr 2 415 0 [])),(5,(.omp 11)),(12,(.d (.sl 1 v0))),(13,(.d (eI v1))),(14,(.d (eI v2)))] [(2,(.mk false (.dc 415 [(.agg 6 [(.sl 2 v3),(eI v4),(.agg 0 [(.str v5),(.sl 1 v6),(.sl 1 v7)]),(.agg 1 [(.sl 1 v8),(eI v9)]),(.agg 3 v10)])]))),(11,(.mk false (.mp v11 v12)))]
noncomputable def zAN(v0:List DV)(v1 v2:Int)(v3:List DV)(v4:Int)(v5:ByteArray)(v6 v7 v8:List DV)(v9:Int)(v10 v11 v12:List DV):Option CR:=goQ 170 0 (S170_0a v0 v1 v2 v3 v4 v5 v6 v7 v8 v9 v10 v11 v12)
def S170_1a(v0:List DV)(v1 v2:Int)(v3:List DV)(v4 v5:Int)(v6:List DV)(v7:Int)(v8:ByteArray)(v9 v10 v11:List DV)(v12:Int)(v13 v14 v15:List DV):St :=
 zr 54 [(2,(.ptr 2 415 0 [])),(5,(.omp 11)),(12,(.d (.sl 1 v0))),(13,(.d (eI v1))),(14,(.d (eI v2))),(18,(.d (.sl 1 v3))),(19,(.d (eI v4))),(20,(.d (eI v5)))] [(2,(.mk false (.dc 415 [(.agg 6 [(.sl 2 v6),(eI v7),(.agg 0 [(.str v8),(.sl 1 v9),(.sl 1 v10)]),(.agg 1 [(.sl 1 v11),(eI v12)]),(.agg 3 v13)])]))),(11,(.mk false (.mp v14 v15)))]
noncomputable def qZ(v0:List DV)(v1 v2:Int)(v3:List DV)(v4 v5:Int)(v6:List DV)(v7:Int)(v8:ByteArray)(v9 v10 v11:List DV)(v12:Int)(v13 v14 v15:List DV):Option CR:=goQ 170 1 (S170_1a v0 v1 v2 v3 v4 v5 v6 v7 v8 v9 v10 v11 v12 v13 v14 v15)
theorem zE8(v0:List DV)(v1 v2:Int)(v3:List DV)(v4:Int)(v5:ByteArray)(v6 v7 v8:List DV)(v9:Int)(v10 v11 v12:List DV):zAN v0 v1 v2 v3 v4 v5 v6 v7 v8 v9 v10 v11 v12 =
 ifO (decide (v2<v1))
 (ifO (decide (((0:Int)<=v2)/\(v2<(((Au v0):Nat):Int))))
 (ifO (zF EE 6 25 (nth v0 (Ag v2)))
 ((qZ v0 v1 v2 (elems (nth v0 (Ag v2))) (((Au (elems (nth v0 (Ag v2)))):Nat):Int) (0:Int) v3 v4 v5 v6 v7 v8 v9 v10 v11 v12))
 (none))
 (none))
 (zH (zB 169 [(.bool (bne (((Au (AQ (AG v11 v12))):Nat):Int) (((Au v3):Nat):Int))),(eI 2)])
 (λr0=>ifO (zF EE 6 46 r0)
 (some (.val (eI (zC r0))))
 (none))
 (λ_ _=>none)) :=
 (zb 170 0 _).trans (by kernel_rfl)
theorem qY(v0:List DV)(v1 v2:Int)(v3:List DV)(v4 v5:Int)(v6:List DV)(v7:Int)(v8:ByteArray)(v9 v10 v11:List DV)(v12:Int)(v13 v14 v15:List DV):qZ v0 v1 v2 v3 v4 v5 v6 v7 v8 v9 v10 v11 v12 v13 v14 v15 =
 ifO (decide (v5<v4))
 (ifO (decide (((0:Int)<=v5)/\(v5<(((Au v3):Nat):Int))))
 (ifO (zF EE 6 3 (nth v3 (Ag v5)))
 (ifO (decide ((zC (nth v3 (Ag v5)))<(0:Int)))
 (zH (zB 169 [(.bool true),(eI 10)])
 (λr3=>ifO (zF EE 6 46 r3)
 (ifO (Aq (jh (eI (zC (nth v3 (Ag v5)))) v14 v15))
 (ifO (Aq (Ai (jh (eI (zC (nth v3 (Ag v5)))) v14 v15) (Aw)))
 (ifO (zF EE 6 4 (Ai (Ai (jh (eI (zC (nth v3 (Ag v5)))) v14 v15) (Aw)) .nl))
 (zH (zB 169 [(.bool (jm (Ai (Ai (jh (eI (zC (nth v3 (Ag v5)))) v14 v15) (Aw)) .nl))),(eI 9)])
 (λr4=>ifO (zF EE 6 46 r4)
 (zH (zB 148 [(.sl 1 [(eI (zC r3)),(eI (zC r4))])])
 (λr5=>ifO (zF EE 6 46 r5)
 (ifO (bne (zC r5) 0)
 (some (.val (eI (zC r5))))
 (ifO (Aq (Y9 (eI (zC (nth v3 (Ag v5)))) (.bool true) v14 v15))
 ((qZ v0 v1 v2 v3 v4 (AD .i64 (v5+(1:Int))) v6 v7 v8 v9 v10 v11 v12 v13 (AQ (Ai (Y9 (eI (zC (nth v3 (Ag v5)))) (.bool true) v14 v15) (AG [] []))) (A5 (Ai (Y9 (eI (zC (nth v3 (Ag v5)))) (.bool true) v14 v15) (AG [] [])))))
 (none)))
 (none))
 (λ_ _=>none))
 (none))
 (λ_ _=>none))
 (none))
 (zH (zB 169 [(.bool false),(eI 9)])
 (λr10=>ifO (zF EE 6 46 r10)
 (zH (zB 148 [(.sl 1 [(eI (zC r3)),(eI (zC r10))])])
 (λr11=>ifO (zF EE 6 46 r11)
 (ifO (bne (zC r11) 0)
 (some (.val (eI (zC r11))))
 (ifO (Aq (Y9 (eI (zC (nth v3 (Ag v5)))) (.bool true) v14 v15))
 ((qZ v0 v1 v2 v3 v4 (AD .i64 (v5+(1:Int))) v6 v7 v8 v9 v10 v11 v12 v13 (AQ (Ai (Y9 (eI (zC (nth v3 (Ag v5)))) (.bool true) v14 v15) (AG [] []))) (A5 (Ai (Y9 (eI (zC (nth v3 (Ag v5)))) (.bool true) v14 v15) (AG [] [])))))
 (none)))
 (none))
 (λ_ _=>none))
 (none))
 (λ_ _=>none)))
 (none))
 (none))
 (λ_ _=>none))
 (zH (zB 169 [(.bool (decide ((zC (nth v3 (Ag v5)))>=(((Au v6):Nat):Int)))),(eI 10)])
 (λr18=>ifO (zF EE 6 46 r18)
 (ifO (Aq (jh (eI (zC (nth v3 (Ag v5)))) v14 v15))
 (ifO (Aq (Ai (jh (eI (zC (nth v3 (Ag v5)))) v14 v15) (Aw)))
 (ifO (zF EE 6 4 (Ai (Ai (jh (eI (zC (nth v3 (Ag v5)))) v14 v15) (Aw)) .nl))
 (zH (zB 169 [(.bool (jm (Ai (Ai (jh (eI (zC (nth v3 (Ag v5)))) v14 v15) (Aw)) .nl))),(eI 9)])
 (λr19=>ifO (zF EE 6 46 r19)
 (zH (zB 148 [(.sl 1 [(eI (zC r18)),(eI (zC r19))])])
 (λr20=>ifO (zF EE 6 46 r20)
 (ifO (bne (zC r20) 0)
 (some (.val (eI (zC r20))))
 (ifO (Aq (Y9 (eI (zC (nth v3 (Ag v5)))) (.bool true) v14 v15))
 ((qZ v0 v1 v2 v3 v4 (AD .i64 (v5+(1:Int))) v6 v7 v8 v9 v10 v11 v12 v13 (AQ (Ai (Y9 (eI (zC (nth v3 (Ag v5)))) (.bool true) v14 v15) (AG [] []))) (A5 (Ai (Y9 (eI (zC (nth v3 (Ag v5)))) (.bool true) v14 v15) (AG [] [])))))
 (none)))
 (none))
 (λ_ _=>none))
 (none))
 (λ_ _=>none))
 (none))
 (zH (zB 169 [(.bool false),(eI 9)])
 (λr25=>ifO (zF EE 6 46 r25)
 (zH (zB 148 [(.sl 1 [(eI (zC r18)),(eI (zC r25))])])
 (λr26=>ifO (zF EE 6 46 r26)
 (ifO (bne (zC r26) 0)
 (some (.val (eI (zC r26))))
 (ifO (Aq (Y9 (eI (zC (nth v3 (Ag v5)))) (.bool true) v14 v15))
 ((qZ v0 v1 v2 v3 v4 (AD .i64 (v5+(1:Int))) v6 v7 v8 v9 v10 v11 v12 v13 (AQ (Ai (Y9 (eI (zC (nth v3 (Ag v5)))) (.bool true) v14 v15) (AG [] []))) (A5 (Ai (Y9 (eI (zC (nth v3 (Ag v5)))) (.bool true) v14 v15) (AG [] [])))))
 (none)))
 (none))
 (λ_ _=>none))
 (none))
 (λ_ _=>none)))
 (none))
 (none))
 (λ_ _=>none)))
 (none))
 (none))
 ((zAN v0 v1 (AD .i64 (v2+(1:Int))) v6 v7 v8 v9 v10 v11 v12 v13 v14 v15)) :=
 (zb 170 1 _).trans (by kernel_rfl)
theorem C170(x0 x1:DV):zB 170 [x0,x1] =
 ifO (zV (zF EE 6) [88,95] [x0,x1])
 ((zAN (elems x1) (((Au (elems x1)):Nat):Int) (0:Int) (elems (nth (flds x0) 0)) (zC (nth (flds x0) 1)) (zX (nth (flds (nth (flds x0) 2)) 0)) (elems (nth (flds (nth (flds x0) 2)) 1)) (elems (nth (flds (nth (flds x0) 2)) 2)) (elems (nth (flds (nth (flds x0) 3)) 0)) (zC (nth (flds (nth (flds x0) 3)) 1)) (flds (nth (flds x0) 4)) [] []))
 (none) :=
 (zM (f:=170) (by kernel_rfl) (by kernel_rfl) (by kernel_rfl) [x0,x1]).trans (by kernel_rfl)
end Go.Am
namespace Go.Am
open Go.Proofs
open Go
variable[OO]
def trs(n:Nat):List DV:=Ah n (.bool true)
theorem scal(a b:Int):JG (eI a) (eI b)=some (a == b):=by kernel_rfl
theorem zEe(i:Int):∀ks:List Int,jh (eI i) (ks.map eI) (trs ks.length)=some (if i∈ks then some (.bool true) else none)
 | []=>rfl
 | a :: ks=>by
  show bnd (JG (eI i) (eI a)) (λb=>match b with | true=>some (some (.bool true)) | false=>jh (eI i) (ks.map eI) (trs ks.length))=_
  rw[scal,zEe i ks];by_cases h:i=a
  ·subst h;simp
  ·have:(i == a)=false:=beq_eq_false_iff_ne.2 h;simp[this,h]
theorem zJK(i:Int):∀ks:List Int,i ∉ ks->Y9 (eI i) (.bool true) (ks.map eI) (trs ks.length)=some ((ks++[i]).map eI,trs (ks++[i]).length)
 | [],_=>rfl
 | a :: ks,h=>by
  simp only[AU,not_or] at h;show bnd (JG (eI i) (eI a)) (λb=>match b with | true=>some (eI i :: ks.map eI,.bool true :: trs ks.length) | false=>bnd (Y9 (eI i) (.bool true) (ks.map eI) (trs ks.length)) λr=>some (eI a :: r.1,.bool true :: r.2))=_
  rw[scal,zJK i ks h.2,beq_eq_false_iff_ne.2 h.1];rfl
def QS(N:Int)(ks:List Int)(i:Int):Int:=zT [if i<0\/i>=N then 10 else 0,if i∈ks then 9 else 0]
def J3(N:Int):List Int->List Int->Int×List Int
 | ks,[]=>(0,ks)
 | ks,i :: g=>if QS N ks i=0 then J3 N (ks++[i]) g else (QS N ks i,ks)
def zAM(N:Int):List Int->List (List Int)->Int
 | ks,[]=>if (ks.length:Int)=N then 0 else 2
 | ks,g :: gs=>if (J3 N ks g).1=0 then zAM N (J3 N ks g).2 gs else (J3 N ks g).1
section
variable(p:Pn)(gs:List (List Int))(hl:gs.length<=1000)
include hl
theorem l170_1(j:Nat)(g:List Int)(hg:g.length<=1000):∀k,k<=g.length->∀ks:List Int,qZ (gs.map λg=>.sl 1 (g.map eI)) gs.length j (g.map eI) g.length k (p.ps.map ePt) p.least p.w.rule (p.w.d.map eI) (p.w.w.map eI) (p.c.p.map eI) p.c.cut (p.r.map jC) (ks.map eI) (trs ks.length) =
  if (J3 p.ps.length ks (g.drop k)).1=0 then zAN (gs.map λg=>.sl 1 (g.map eI)) gs.length (AJ.wrap ((j:Int)+1)) (p.ps.map ePt) p.least p.w.rule (p.w.d.map eI) (p.w.w.map eI) (p.c.p.map eI) p.c.cut (p.r.map jC) ((J3 p.ps.length ks (g.drop k)).2.map eI) (trs (J3 p.ps.length ks (g.drop k)).2.length)
  else some (.val (eI (J3 p.ps.length ks (g.drop k)).1)):=by
 refine down (P:=λk=>∀ks:List Int,qZ (gs.map λg=>.sl 1 (g.map eI)) gs.length j (g.map eI) g.length k (p.ps.map ePt) p.least p.w.rule (p.w.d.map eI) (p.w.w.map eI) (p.c.p.map eI) p.c.cut (p.r.map jC) (ks.map eI) (trs ks.length) =
  if (J3 p.ps.length ks (g.drop k)).1=0 then zAN (gs.map λg=>.sl 1 (g.map eI)) gs.length (AJ.wrap ((j:Int)+1)) (p.ps.map ePt) p.least p.w.rule (p.w.d.map eI) (p.w.w.map eI) (p.c.p.map eI) p.c.cut (p.r.map jC) ((J3 p.ps.length ks (g.drop k)).2.map eI) (trs (J3 p.ps.length ks (g.drop k)).2.length)
  else some (.val (eI (J3 p.ps.length ks (g.drop k)).1))) g.length ?_ ?_
 ·intro ks;rw[qY];simp[J3]
 ·intro k hk ih ks;have e1:(k:Int)<g.length:=by omega
  rw[za g k hk];generalize hi:g[k]=i;have hf:=zEe i ks;have ha:zB 169 [.bool (decide (i>=(p.ps.length:Int))),eI 10]=some (.val (eI (if i>=(p.ps.length:Int) then 10 else 0))):=by rw[c169];by_cases h:i>=(p.ps.length:Int) <;> simp[h]
  by_cases hin:i∈ks
  ·have hs:¬QS p.ps.length ks i=0:=by unfold QS;rw[if_pos hin];by_cases h:i<0\/i>=(p.ps.length:Int) <;> simp[h,zT]
   rw[if_pos hin] at hf;simp only[J3,if_neg hs];rw[qY];simp only[zP,zz];by_cases h1:i<0
   ·simp[e1,hk,zO _ g k hk,hi,hf,h1,QS,hin,zT]
   ·by_cases h2:i>=(p.ps.length:Int)
    ·simp[e1,hk,zO _ g k hk,hi,hf,h1,h2,QS,hin,zT]
    ·simp[e1,hk,zO _ g k hk,hi,hf,h1,h2,QS,hin,zT]
  ·have hp:=zJK i ks hin;rw[if_neg hin] at hf;by_cases h1:i<0
   ·have hs:¬QS p.ps.length ks i=0:=by simp[QS,h1,zT]
    simp only[J3,if_neg hs];rw[qY];simp only[zP,zz];simp[e1,hk,zO _ g k hk,hi,hf,h1,QS,zT]
   ·by_cases h2:i>=(p.ps.length:Int)
    ·have hs:¬QS p.ps.length ks i=0:=by simp[QS,h2,zT]
     simp only[J3,if_neg hs];rw[qY];simp only[zP,zz];simp[e1,hk,zO _ g k hk,hi,hf,h1,h2,QS,zT]
    ·have hs:QS p.ps.length ks i=0:=by simp[QS,h1,h2,hin,zT]
     have ih':=ih (ks++[i]);simp only[J3,if_pos hs];rw[qY,<-ih'];simp only[zP,zz];simp[e1,hk,zO _ g k hk,hi,hf,h1,h2,hp,zT,wr ((k:Int)+1) (by omega)]
theorem l170_0(hg:∀g∈gs,g.length<=1000):∀j,j<=gs.length->∀ks:List Int,zAN (gs.map λg=>.sl 1 (g.map eI)) gs.length j (p.ps.map ePt) p.least p.w.rule (p.w.d.map eI) (p.w.w.map eI) (p.c.p.map eI) p.c.cut (p.r.map jC) (ks.map eI) (trs ks.length) =
  some (.val (eI (zAM p.ps.length ks (gs.drop j)))):=by
 refine down (P:=λj=>∀ks:List Int,zAN (gs.map λg=>.sl 1 (g.map eI)) gs.length j (p.ps.map ePt) p.least p.w.rule (p.w.d.map eI) (p.w.w.map eI) (p.c.p.map eI) p.c.cut (p.r.map jC) (ks.map eI) (trs ks.length) =
  some (.val (eI (zAM p.ps.length ks (gs.drop j))))) gs.length ?_ ?_
 ·intro ks;rw[zE8];simp only[zP,Int.lt_irrefl,if_false,List.drop_length,zAM,Ad];rw[show zB 169 [.bool (bne (ks.length:Int) (p.ps.length:Int)),.int .i64 2]=some (.val (eI (if (ks.length:Int)=p.ps.length then 0 else 2))) from(c169 _ _).trans (by
   by_cases h:(ks.length:Int)=p.ps.length
   ·rw[h];simp
   ·have:bne (ks.length:Int) (p.ps.length:Int)=true:=by simpa[bne] using h
    rw[this,if_neg h];rfl)]
  simp
 ·intro j hj ih ks;have e1:(j:Int)<gs.length:=by omega
  rw[za gs j hj];have h1:=l170_1 p gs hl j gs[j] (hg _ (Af hj)) 0 (AO _) ks;have hw:AJ.wrap ((j:Int)+1)=((j+1:Nat):Int):=by rw[wr ((j:Int)+1) (by omega)];rfl
  rw[Bn,hw,ih] at h1;rw[zE8];simp only[zP,zAM];simp only[e1,hj,zO _ gs j hj,h25,zD,zR,Ad,if_true,Int.natCast_nonneg,and_self,Bg];refine(show _=qZ _ _ _ _ _ ((0:Nat):Int) _ _ _ _ _ _ _ _ _ _ from rfl).trans (h1.trans ?_)
  split <;> rfl
end
theorem c170(p:Pn)(hr:zu p.r)(gs:List (List Int))(hl:gs.length<=1000)(hg:∀g∈gs,g.length<=1000):zB 170 [ePn p,.sl 1 (gs.map λg=>.sl 1 (g.map eI))]=some (.val (eI (zAM p.ps.length [] gs))):=by rw[C170];simp only[zK,zN,hPn p hr,h95,Bool.and_self,zD,zQ,zS,zW,zh,zi,je,zR,zI,zZ,Ad];exact l170_0 p gs hl hg 0 (AO _) []
end Go.Am
namespace Go.Am
open Go.Proofs
open Go Go.RowKit
theorem zH6{a b:List (List Int)}(h:eGs a=eGs b):a=b:=QI (λ_ _ h=>zBZ (Qd h)) (Qd h)
def T50(ds:List DV)(r:CR):Prop :=
 (∃p gs n,@V50 oo2 p gs n/\ds=[ePn p,eGs gs,eI n]/\r=.val (.tup [eI (YQ p gs n).1,eI (YQ p gs n).2])) \/
 ((¬∃p gs n,@V50 oo2 p gs n/\ds=[ePn p,eGs gs,eI n])/\@zB oo2 50 ds=some r)
theorem at50(ds:List DV)(r:CR):T50 ds r->qM PP EE 50 ds r:=by
 rintro (⟨p,gs,n,h,rfl,rfl⟩ | ⟨_,h⟩)
 ·exact @at50v oo2 knW2 knS2 env2 p gs n h
 ·exact jo env2 XX 50 ds r h
noncomputable def orc3(f:FuncId):Option (List DV->Option CR):=if f=50 then some (orT T50) else orc2 f
theorem zHs(f:FuncId)(h:(zGK f).isNone=true):orc3 f=none:=by
 unfold orc3;split
 ·rename_i e;subst e;simp[zGK] at h
 ·exact orc2_ok f h
noncomputable abbrev oo3:OO:=⟨orc3,zHs⟩
theorem env3:EnvOKo PP EE oo3.o:=by
 refine⟨QE _ _ _,JK,λf fn h=>E0_F _ _ _ f fn h,λf g h=>?_⟩
 have h:orc3 f=some g:=h;unfold orc3 at h;split at h
 ·rename_i e;subst e;injection h with h
  subst h;exact Qk at50
 ·exact env2.orc f g h
theorem o3{f:FuncId}(h:f≠50):oo3.o f=orc2 f:=if_neg h
theorem o350:oo3.o 50=some (orT T50):=(if_pos rfl:orc3 50=some (orT T50))
theorem knW3:@KnW oo3:=zIN (o3 (f:=200) (by decide))
theorem knO3:@KnO oo3:=knO_of (o3 (f:=68) (by decide))
theorem knS3:@KnS oo3:=zIO (o3 (f:=243) (by decide)) (o3 (f:=161) (by decide)) (o3 (f:=210) (by decide)) (o3 (f:=208) (by decide))
theorem c50v{p:Pn}{gs:List (List Int)}{n:Int}(h:@V50 oo2 p gs n):@zB oo3 50 [ePn p,eGs gs,eI n]=some (.val (.tup [eI (YQ p gs n).1,eI (YQ p gs n).2])):=by
 refine J9 (o:=oo3) (f:=50) o350 (.inl ⟨p,gs,n,h,rfl,rfl⟩) ?_;rintro r' (⟨p',gs',n',_,e,rfl⟩ | ⟨hn,_⟩)
 ·injection e with e1 e;injection e with e2 e
  injection e with e3 _;rw[zEl _ _ e1,zH6 e2,Y7 e3]
 ·exact(hn ⟨p,gs,n,h,rfl⟩).elim
theorem v50S:@V50 oo2 pS gS 2 :=
 @V50.mk oo2 pS gS 2 okS (by decide) ((@c170 oo2 pS okS gS (by decide) (by decide)).trans (by rw[show zAM pS.ps.length [] gS=0 by decide])) (by decide) (by decide) (by decide) (by decide) (by decide)
theorem sortS1:JH [0,1]=[0,1]:=AR (by decide)
theorem sortS2:JH [2]=[2]:=AR (by decide)
theorem boundS:YQ pS gS 2=(307200,0):=by
 have e:zDx (bstP pS) gS.reverse 2=some 307200:=by show zDy (zDy (zDx (bstP pS) []) (bstP pS (JH [0,1])) 3) (bstP pS (JH [2])) 2 2=some 307200;rw[sortS1,sortS2];kernel_rfl
 unfold YQ;rw[e]
theorem knB3:@KnB oo3:=@KnB.mk oo3 ((c50v v50S).trans (by rw[boundS]))
theorem awake3:@zB oo3 33 []=some (.val (.bool true)):=@awake oo3 knW3 knS3 knO3 knB3
end Go.Am
namespace Go.Am
open Go.Proofs
open Go Go.RowKit
theorem zG6[OO](hE:EnvOKo PP EE OO.o){f:FuncId}{ds:List DV}(h:zB f ds=some (.val (.bool true))){W:World}{vals:List Value}(hg:GlobOK EE (λb=>b<W.heap.size) W)(hlen:vals.length=ds.length)
  (hv:∀i (h:i<ds.length) (h':i<vals.length),RV EE.L (λb=>b<W.heap.size) W ds[i] vals[i]):Calls PP f vals.toArray W λe W'=>e=.returned (.bool true)/\Below W.heap.size W W':=by
 have key:=(jo hE XX f ds _ h).2 _ W vals hg (λ_ h=>h) hlen hv
 refine key.mono λe W' ⟨v,he,S',hB,_,_,_,hr⟩=>?_
 subst he;exact⟨congrArg _ (RV.bool (E:=EE) hr),hB⟩
end Go.Am
namespace Go.Proofs.YtojkhldombndpaaGreatDoor
open Go Go.Am Go.RowKit Go.ChangeShapes Go.WideShapes Go.ChangeAt
theorem own:ownKnob Tryz.prog.godebug=Aw:=by kernel_rfl
theorem zJY:laidOutB Tryz.prog=true:=by kernel_rfl
theorem E0D:DOK Tryz.prog EE:=QE _ _ _
theorem gSteps:Tryz.prog.globalNamed "nacelle/site.steps"=some 1:=by kernel_rfl
theorem tSteps:(Tryz.prog.globals[1]?).map (·.type)=some 383:=by kernel_rfl
theorem gPow:Tryz.prog.globalNamed "internal/strconv.uint64pow10"=some 5:=by kernel_rfl
theorem tPow:(Tryz.prog.globals[5]?).map (·.type)=some 480:=by kernel_rfl
abbrev laid2:List (String×DataW Unit):=[("math/bits.deBruijn32tab",Rows.laid_math_bits_deBruijn32tab),("math/bits.deBruijn64tab",Rows.laid_math_bits_deBruijn64tab),("internal/strconv.uint64pow10",AL),("nacelle/site.steps",AN)]
theorem zBO{W:World}(h:laidMetH Tryz.prog laid2 W):GlobOK EE (λb=>b<W.heap.size) W:=by
 rw[MakeChecks.laidMetH_plain _ _ _ (by kernel_rfl)] at h
 obtain⟨ps,hl,_,_⟩:=h;obtain⟨g,t,cs,fuel,p,e1,e2,e3,e4⟩:=zF1 (n:="nacelle/site.steps") (d:=AN) hl (by simp[laid2])
 obtain rfl:=Az (gSteps.symm.trans e1);obtain rfl:=Az (tSteps.symm.trans e2);obtain⟨g',t',cs',fuel',p',f1,f2,f3,f4⟩:=zF1 (n:="internal/strconv.uint64pow10") (d:=AL) hl (by simp[laid2])
 obtain rfl:=Az (gPow.symm.trans f1);obtain rfl:=Az (tPow.symm.trans f2);have hc:=trod_pts (k:=.i64) (n:=8) (ei:=3) Tryz.underlying383 Tryz.underlying141 ⟨rfl,rfl⟩ ⟨rfl,rfl⟩ Tryz.underlying3 (by kernel_rfl) (by kernel_rfl) (by kernel_rfl) stepsL rfl e4 rfl
 have hd:=trod_ints (k:=.u64) (n:=20) Tryz.underlying480 Tryz.underlying421 (by kernel_rfl) (by kernel_rfl) Lib.pow10Tab rfl f4 rfl
 refine glob_mk (λj=>?_) ?_
 ·rw[World.var?_cell e1 e3 j,<-Array.getElem?_toList,hc];rfl
 ·simp only[World.var?,f1,Option.bind_some] at f3;split at f3
  ·rename_i c t fr hh;injection f3 with f3
   subst f3;refine⟨t,fr,?_⟩;rw[hh,<-hd]
  ·cases f3
theorem zHH(os:Os)(args:Array Value):laidMetH Tryz.prog laid2 ((World.doorLaid Tryz.prog 100 os).forCall (λ_ _=>0) ⟨#[],args,[]⟩).memory :=
 laidMetH_of_parts3 (fuel:=8) (laidMet_of_run' 8 (by kernel_rfl) (by kernel_rfl)) (by kernel_rfl) (by kernel_rfl)
end Go.Proofs.YtojkhldombndpaaGreatDoor
namespace Go.Am
open Go.Proofs
open Go
def in64(m:Int):Prop:=-9223372036854775808<=m/\m<=9223372036854775807
theorem lst{α:Type}(e:α->DV)(Q:α->Prop)(P:DV->Prop)(h:∀y,P y->∃a,y=e a/\Q a):∀xs:List DV,(∀y∈xs,P y)->∃l:List α,xs=l.map e/\∀a∈l,Q a
 | [],_=>⟨[],rfl,λa h=>by simp at h⟩
 | x :: xs,hx=>by
  obtain⟨a,h1,h2⟩:=h x (hx x (by simp))
  obtain⟨l,h3,h4⟩:=lst e Q P h xs λy hy=>hx y (by simp[hy])
  refine⟨a :: l,by rw[h1,h3];rfl,λb hb=>?_⟩
  rcases AU.1 hb with rfl | hb
  ·exact h2
  ·exact h4 b hb
theorem d3{n:Nat}{x:DV}(h:DT EE (n+1) 3 x):∃m,x=eI m/\in64 m:=by
 obtain⟨m,h1,h2,h3⟩:=(show DT EE (n+1) 3 x=(∃m:Int,x=DV.int .i64 m/\AJ.min<=m/\m<=AJ.max) by kernel_rfl) ▸ h
 exact⟨m,h1,h2,h3⟩
theorem d9{n:Nat}{x:DV}(h:DT EE (n+1) 9 x):∃s,x=.str s:=(show DT EE (n+1) 9 x=(∃s:ByteArray,x=DV.str s) by kernel_rfl) ▸ h
theorem d25{n:Nat}{x:DV}(h:DT EE (n+2) 25 x):∃l:List Int,x=.sl 1 (l.map eI)/\∀m∈l,in64 m:=by
 obtain⟨ed,xs,h1,h2,h3⟩:=(show DT EE (n+2) 25 x=(∃(ed:TD) (xs:List DV),EE.D 3=some ed/\x=DV.sl ed.size xs/\∀y∈xs,DT EE (n+1) 3 y) by kernel_rfl) ▸ h
 have e:EE.D 3=some td3:=by kernel_rfl
 rw[e] at h1;injection h1 with h1
 subst h1;obtain⟨l,rfl,hl⟩:=lst eI in64 _ (λy hy=>d3 hy) xs h3
 exact⟨l,h2,hl⟩
theorem fld2{x:List DV}(h:x.length=2):∃a b,x=[a,b]:=by match x,h with | [a,b],_=>exact⟨a,b,rfl⟩
theorem fld3{x:List DV}(h:x.length=3):∃a b c,x=[a,b,c]:=by match x,h with | [a,b,c],_=>exact⟨a,b,c,rfl⟩
theorem fld4{x:List DV}(h:x.length=4):∃a b c d,x=[a,b,c,d]:=by match x,h with | [a,b,c,d],_=>exact⟨a,b,c,d,rfl⟩
theorem fld5{x:List DV}(h:x.length=5):∃a b c d e,x=[a,b,c,d,e]:=by match x,h with | [a,b,c,d,e],_=>exact⟨a,b,c,d,e,rfl⟩
theorem d141{n:Nat}{x:DV}(h:DT EE (n+2) 141 x):∃p:Pt,x=ePt p/\in64 p.x/\in64 p.y:=by
 obtain⟨xs,h1,h2,h3⟩:=(show DT EE (n+2) 141 x=(∃xs:List DV,x=DV.agg 1 xs/\xs.length=([3,3]:List Nat).length/\∀(i:Nat) (u:TypeId) (y:DV),([3,3]:List Nat)[i]? = some u->xs[i]? = some y->DT EE (n+1) u y) by kernel_rfl) ▸ h
 obtain⟨a,b,rfl⟩:=fld2 h2;obtain⟨p,rfl,hp⟩:=d3 (h3 0 3 a rfl rfl);obtain⟨q,rfl,hq⟩:=d3 (h3 1 3 b rfl rfl);exact⟨⟨p,q⟩,h1,hp,hq⟩
theorem d143{n:Nat}{x:DV}(h:DT EE (n+3) 143 x):∃t:Tb,x=eTb t/\in64 t.at'.x/\in64 t.at'.y:=by
 obtain⟨xs,h1,h2,h3⟩:=(show DT EE (n+3) 143 x=(∃xs:List DV,x=DV.agg 9 xs/\xs.length=([9,141]:List Nat).length/\∀(i:Nat) (u:TypeId) (y:DV),([9,141]:List Nat)[i]? = some u->xs[i]? = some y->DT EE (n+2) u y) by kernel_rfl) ▸ h
 obtain⟨a,b,rfl⟩:=fld2 h2;obtain⟨s,rfl⟩:=d9 (h3 0 9 a rfl rfl);obtain⟨p,rfl,hp⟩:=d141 (h3 1 141 b rfl rfl);exact⟨⟨s,p⟩,h1,hp⟩
theorem d22{n:Nat}{x:DV}(h:DT EE (n+4) 22 x):∃l:List Tb,x=.sl 3 (l.map eTb)/\∀t∈l,in64 t.at'.x/\in64 t.at'.y:=by
 obtain⟨ed,xs,h1,h2,h3⟩:=(show DT EE (n+4) 22 x=(∃(ed:TD) (xs:List DV),EE.D 143=some ed/\x=DV.sl ed.size xs/\∀y∈xs,DT EE (n+3) 143 y) by kernel_rfl) ▸ h
 have e:EE.D 143=some td143:=by kernel_rfl
 rw[e] at h1;injection h1 with h1
 subst h1;obtain⟨l,rfl,hl⟩:=lst eTb (λt=>in64 t.at'.x/\in64 t.at'.y) _ (λy hy=>d143 hy) xs h3
 exact⟨l,h2,hl⟩
theorem d24{n:Nat}{x:DV}(h:DT EE (n+5) 24 x):∃s:Si,x=eSi s/\in64 s.least/\∀t∈s.tb,in64 t.at'.x/\in64 t.at'.y:=by
 obtain⟨xs,h1,h2,h3⟩:=(show DT EE (n+5) 24 x=(∃xs:List DV,x=DV.agg 0 xs/\xs.length=([9,3,22]:List Nat).length/\∀(i:Nat) (u:TypeId) (y:DV),([9,3,22]:List Nat)[i]? = some u->xs[i]? = some y->DT EE (n+4) u y) by kernel_rfl) ▸ h
 obtain⟨a,b,c,rfl⟩:=fld3 h2;obtain⟨s,rfl⟩:=d9 (h3 0 9 a rfl rfl);obtain⟨m,rfl,hm⟩:=d3 (h3 1 3 b rfl rfl);obtain⟨l,rfl,hl⟩:=d22 (h3 2 22 c rfl rfl);exact⟨⟨s,m,l⟩,h1,hm,hl⟩
def in64W(w:Wk):Prop:=(∀m∈w.d,in64 m)/\∀m∈w.w,in64 m
theorem d27{n:Nat}{x:DV}(h:DT EE (n+3) 27 x):∃w:Wk,x=eWk w/\in64W w:=by
 obtain⟨xs,h1,h2,h3⟩:=(show DT EE (n+3) 27 x=(∃xs:List DV,x=DV.agg 0 xs/\xs.length=([9,25,25]:List Nat).length/\∀(i:Nat) (u:TypeId) (y:DV),([9,25,25]:List Nat)[i]? = some u->xs[i]? = some y->DT EE (n+2) u y) by kernel_rfl) ▸ h
 obtain⟨a,b,c,rfl⟩:=fld3 h2;obtain⟨s,rfl⟩:=d9 (h3 0 9 a rfl rfl);obtain⟨l,rfl,hl⟩:=d25 (h3 1 25 b rfl rfl);obtain⟨k,rfl,hk⟩:=d25 (h3 2 25 c rfl rfl);exact⟨⟨s,l,k⟩,h1,hl,hk⟩
theorem d29{n:Nat}{x:DV}(h:DT EE (n+3) 29 x):∃c:Cu,x=eCu c/\(∀m∈c.p,in64 m)/\in64 c.cut:=by
 obtain⟨xs,h1,h2,h3⟩:=(show DT EE (n+3) 29 x=(∃xs:List DV,x=DV.agg 1 xs/\xs.length=([25,3]:List Nat).length/\∀(i:Nat) (u:TypeId) (y:DV),([25,3]:List Nat)[i]? = some u->xs[i]? = some y->DT EE (n+2) u y) by kernel_rfl) ▸ h
 obtain⟨a,b,rfl⟩:=fld2 h2;obtain⟨l,rfl,hl⟩:=d25 (h3 0 25 a rfl rfl);obtain⟨k,rfl,hk⟩:=d3 (h3 1 3 b rfl rfl);exact⟨⟨l,k⟩,h1,hl,hk⟩
theorem d30{n:Nat}{x:DV}(h:DT EE (n+2) 30 x):∃l:List Int,x=jC l/\l.length=51/\∀m∈l,in64 m:=by
 obtain⟨xs,h1,h2,h3⟩:=(show DT EE (n+2) 30 x=(∃xs:List DV,x=DV.agg 2 xs/\xs.length=51/\∀y∈xs,DT EE (n+1) 3 y) by kernel_rfl) ▸ h
 obtain⟨l,rfl,hl⟩:=lst eI in64 _ (λy hy=>d3 hy) xs h3
 exact⟨l,h1,by simpa using h2,hl⟩
theorem d32{n:Nat}{x:DV}(h:DT EE (n+3) 32 x):∃r:List (List Int),x=eRo r/\zu r/\∀l∈r,∀m∈l,in64 m:=by
 obtain⟨xs,h1,h2,h3⟩:=(show DT EE (n+3) 32 x=(∃xs:List DV,x=DV.agg 3 xs/\xs.length=8/\∀y∈xs,DT EE (n+2) 30 y) by kernel_rfl) ▸ h
 obtain⟨r,rfl,hr⟩:=lst jC (λl=>l.length=51/\∀m∈l,in64 m) _ (λy hy=>d30 hy) xs h3
 exact⟨r,h1,⟨by simpa using h2,λl hl=>(hr l hl).1⟩,λl hl=>(hr l hl).2⟩
structure In64F(f:Fm):Prop where
 least:in64 f.s.least
 tb:∀t∈f.s.tb,in64 t.at'.x/\in64 t.at'.y
 w:in64W f.w
 p:∀m∈f.c.p,in64 m
 cut:in64 f.c.cut
 r:∀l∈f.r,∀m∈l,in64 m
theorem d34{n:Nat}{x:DV}(h:DT EE (n+6) 34 x):∃f:Fm,x=eFm f/\zu f.r/\In64F f:=by
 obtain⟨xs,h1,h2,h3⟩:=(show DT EE (n+6) 34 x=(∃xs:List DV,x=DV.agg 4 xs/\xs.length=([24,27,29,32]:List Nat).length/\∀(i:Nat) (u:TypeId) (y:DV),([24,27,29,32]:List Nat)[i]? = some u->xs[i]? = some y->DT EE (n+5) u y) by kernel_rfl) ▸ h
 obtain⟨a,b,c,d,rfl⟩:=fld4 h2;obtain⟨s,rfl,hs,ht⟩:=d24 (h3 0 24 a rfl rfl);obtain⟨w,rfl,hw⟩:=d27 (h3 1 27 b rfl rfl);obtain⟨cu,rfl,hc,hcut⟩:=d29 (h3 2 29 c rfl rfl);obtain⟨r,rfl,hr,hr'⟩:=d32 (h3 3 32 d rfl rfl);exact⟨⟨s,w,cu,r⟩,h1,hr,⟨hs,ht,hw,hc,hcut,hr'⟩⟩
abbrev eSp(a b c d:Int):DV:=.agg 5 [eI a,eI b,eI c,eI d]
theorem d72{n:Nat}{x:DV}(h:DT EE (n+2) 72 x):∃a b c d:Int,x=eSp a b c d/\in64 a/\in64 b/\in64 c/\in64 d:=by
 obtain⟨xs,h1,h2,h3⟩:=(show DT EE (n+2) 72 x=(∃xs:List DV,x=DV.agg 5 xs/\xs.length=([3,3,3,3]:List Nat).length/\∀(i:Nat) (u:TypeId) (y:DV),([3,3,3,3]:List Nat)[i]? = some u->xs[i]? = some y->DT EE (n+1) u y) by kernel_rfl) ▸ h
 obtain⟨a,b,c,d,rfl⟩:=fld4 h2;obtain⟨a,rfl,ha⟩:=d3 (h3 0 3 a rfl rfl);obtain⟨b,rfl,hb⟩:=d3 (h3 1 3 b rfl rfl);obtain⟨c,rfl,hc⟩:=d3 (h3 2 3 c rfl rfl);obtain⟨d,rfl,hd⟩:=d3 (h3 3 3 d rfl rfl);exact⟨a,b,c,d,h1,ha,hb,hc,hd⟩
end Go.Am
