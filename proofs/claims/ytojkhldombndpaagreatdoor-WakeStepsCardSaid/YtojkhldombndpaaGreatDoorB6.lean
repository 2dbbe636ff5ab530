/- The abstract machine, the contracts of the functions that are walked by hand, and the examples of the document. Part 6. -/
import Derived.Test.YtojkhldombndpaaGreatDoorB5
set_option linter.all false
namespace Go.Am
open Go.Proofs
open Go Go.RowKit
abbrev Orc:=FuncId->Option (List DV->Option CR)
def je(o:Orc)(E:Env)(X:XC):Nat->FuncId->List DV->Option CR
 | 0,_,_=>none
 | n+1,f,args=>match o f with
  | some g=>g args
  | none=>match E.F f with
   | some fn=>match fn.body with
    | some c=>run (je o E X n) (goX (je o E X n) (loopX E X f fn c) n) (funX E X f fn c args)
    | none=>none
   | none=>none
section
variable{o:Orc}{E:Env}{X:XC}
theorem Ye:∀n,Sub (je o E X n) (je o E X (n+1))
 | 0=>λf a r h=>by simp[je] at h
 | n+1=>λf a r h=>by
  rw[je] at h ⊢;split at h
  ·rename_i g hg;exact h
  ·split at h
   ·split at h
    ·exact YF (Ye n) (QP (Ye n) _ (Nat.le_succ n)) _ h
    ·cases h
   ·cases h
theorem Jd{n m:Nat}(h:n<=m):Sub (je o E X n) (je o E X m):=by
 induction h with
 | refl=>exact λ_ _ _ h=>h
 | step _ ih=>exact λf a r h=>Ye _ f a r (ih f a r h)
end
open Classical in
noncomputable def QU(o:Orc)(E:Env)(X:XC)(f:FuncId)(a:List DV):Option CR :=
 if h:∃n,(je o E X n f a).isSome=true then je o E X h.choose f a else none
def goNo(o:Orc)(E:Env)(X:XC)(f:FuncId)(n:Nat):Nat->St->Option CR:=goX (je o E X n) (loopX E X f (fnOf E f) (J7 E f)) n
open Classical in
noncomputable def goLo(o:Orc)(E:Env)(X:XC)(f:FuncId)(j:Nat)(st:St):Option CR :=
 if h:∃n,(goNo o E X f n j st).isSome=true then goNo o E X f h.choose j st else none
section
variable{o:Orc}{E:Env}{X:XC}
theorem zAh{f:FuncId}{n m:Nat}(h:n<=m):SubG (goNo o E X f n) (goNo o E X f m):=QP (Jd h) _ h
theorem Jj{f:FuncId}{a:List DV}{r:CR}:QU o E X f a=some r ↔ ∃n,je o E X n f a=some r:=by
 unfold QU;constructor
 ·intro h;split at h
  ·exact⟨_,h⟩
  ·cases h
 ·rintro⟨n,h⟩;have hex:∃n,(je o E X n f a).isSome=true:=⟨n,by rw[h];rfl⟩
  rw[dif_pos hex];obtain⟨r',hr'⟩:=Option.isSome_iff_exists.1 hex.choose_spec;rw[hr'];rcases Nat.le_total n hex.choose with k | k
  ·have:=Jd k _ _ _ h;rw[hr'] at this;exact this
  ·have:=Jd k _ _ _ hr';rw[h] at this;exact this.symm
theorem goLo_iff{f:FuncId}{j:Nat}{st:St}{r:CR}:goLo o E X f j st=some r ↔ ∃n,goNo o E X f n j st=some r:=by
 unfold goLo;constructor
 ·intro h;split at h
  ·exact⟨_,h⟩
  ·cases h
 ·rintro⟨n,h⟩;have hex:∃n,(goNo o E X f n j st).isSome=true:=⟨n,by rw[h];rfl⟩
  rw[dif_pos hex];obtain⟨r',hr'⟩:=Option.isSome_iff_exists.1 hex.choose_spec;rw[hr'];rcases Nat.le_total n hex.choose with k | k
  ·have:=zAh k _ _ _ h;rw[hr'] at this;exact this
  ·have:=zAh k _ _ _ hr';rw[h] at this;exact this.symm
theorem run_limo{f:FuncId}{r:CR}:∀t:Tr,run (QU o E X) (goLo o E X f) t=some r->∃n,run (je o E X n) (goNo o E X f n) t=some r:=by
 intro t;induction t with
 | fail=>intro h;simp[run] at h
 | ret r'=>intro h;exact⟨0,h⟩
 | ifB b t e iht ihe =>
  intro h;rcases QE h with ⟨rfl,h⟩ | ⟨rfl,h⟩
  ·exact iht h
  ·exact ihe h
 | call g a kv kf ihv ihf =>
  intro h;rcases QF h with ⟨x,h1,h⟩ | ⟨s,xs,h1,h⟩
  ·obtain⟨n,hn⟩:=Jj.1 h1;obtain⟨m,hm⟩:=ihv x h;refine⟨max n m,?_⟩;simp only[run,Jd (Nat.le_max_left n m) _ _ _ hn,zC];exact YF (Jd (Nat.le_max_right n m)) (zAh (Nat.le_max_right n m)) _ hm
  ·obtain⟨n,hn⟩:=Jj.1 h1;obtain⟨m,hm⟩:=ihf s xs h;refine⟨max n m,?_⟩;simp only[run,Jd (Nat.le_max_left n m) _ _ _ hn,zC];exact YF (Jd (Nat.le_max_right n m)) (zAh (Nat.le_max_right n m)) _ hm
 | goto j st=>intro h;exact goLo_iff.1 h
theorem run_upo{f:FuncId}{n:Nat}{r:CR}(t:Tr)(h:run (je o E X n) (goNo o E X f n) t=some r):run (QU o E X) (goLo o E X f) t=some r :=
 YF (λ_ _ _ h=>Jj.2 ⟨n,h⟩) (λ_ _ _ h=>goLo_iff.2 ⟨n,h⟩) t h
theorem goLo_eq(f:FuncId)(j:Nat)(st:St):goLo o E X f j st=run (QU o E X) (goLo o E X f) (loopX E X f (fnOf E f) (J7 E f) j st):=by
 apply opt_ext;intro r;constructor
 ·intro h;obtain⟨n,h⟩:=goLo_iff.1 h;cases n with
  | zero=>simp[goNo,goX] at h
  | succ n =>
   have h':run (je o E X (n+1)) (goX (je o E X (n+1)) (loopX E X f (fnOf E f) (J7 E f)) n) (loopX E X f (fnOf E f) (J7 E f) j st)=some r:=h;exact run_upo (n:=n+1) _ (YF (λ_ _ _ h=>h) (QP (λ_ _ _ h=>h) _ (Nat.le_succ n)) _ h')
 ·intro h;obtain⟨n,h⟩:=run_limo _ h;refine goLo_iff.2 ⟨n+1,?_⟩;show run (je o E X (n+1)) (goX (je o E X (n+1)) (loopX E X f (fnOf E f) (J7 E f)) n) (loopX E X f (fnOf E f) (J7 E f) j st)=some r;exact YF (Ye n) (QP (Ye n) _ (Nat.le_refl n)) _ h
theorem callLo_orc{f:FuncId}{g:List DV->Option CR}(ho:o f=some g)(a:List DV):QU o E X f a=g a:=by
 apply opt_ext;intro r;constructor
 ·intro h;obtain⟨n,h⟩:=Jj.1 h;cases n with
  | zero=>simp[je] at h
  | succ n=>rw[je,ho] at h;exact h
 ·intro h;exact Jj.2 ⟨1,by rw[je,ho];exact h⟩
theorem callLo_eq{f:FuncId}(ho':o f=none)(hF:(E.F f).isSome=true)(hb:((fnOf E f).body).isSome=true)(a:List DV) :
  QU o E X f a=run (QU o E X) (goLo o E X f) (funX E X f (fnOf E f) (J7 E f) a):=by
 obtain⟨fn,hfn⟩:=Option.isSome_iff_exists.1 hF;have e1:fnOf E f=fn:=by unfold fnOf;rw[hfn]
 obtain⟨c,hc⟩:=Option.isSome_iff_exists.1 hb;have e2:J7 E f=c:=by unfold J7;rw[hc]
 have hs:∀n,je o E X (n+1) f a=run (je o E X n) (goNo o E X f n) (funX E X f (fnOf E f) (J7 E f) a):=by intro n;rw[e1] at hc;rw[je,ho',hfn];simp only[hc];unfold goNo;rw[e1,e2]
 apply opt_ext;intro r;constructor
 ·intro h;obtain⟨n,h⟩:=Jj.1 h;cases n with
  | zero=>simp[je] at h
  | succ n=>rw[hs] at h;exact run_upo _ h
 ·intro h;obtain⟨n,h⟩:=run_limo _ h;exact Jj.2 ⟨n+1,by rw[hs];exact h⟩
end
structure EnvOKo(P:Program)(E:Env)(o:Orc):Prop where
 D:DOK P E
 mixed:P.follows .mixedOrders=true
 F:∀f fn,E.F f=some fn->P.funcs[f]? = some fn/\(fn.name == "runtime.NumGoroutine")=false
 orc:∀f g,o f=some g->jw P E λf' ds=>if f'=f then g ds else none
theorem callXo_sound{P:Program}{E:Env}{o:Orc}(hE:EnvOKo P E o)(X:XC):∀n,jw P E (je o E X n):=by
 intro n;induction n with
 | zero=>intro f ds r h;simp[je] at h
 | succ n ih =>
  intro f ds r h;simp only[je] at h;cases ho:o f with
  | some g =>
   rw[ho] at h;exact hE.orc f g ho f ds r (by simpa using h)
  | none =>
   rw[ho] at h;simp only at h;cases hF:E.F f with
   | none=>rw[hF] at h;simp at h
   | some fn =>
    rw[hF] at h;simp only at h;obtain⟨hf,hname⟩:=hE.F f fn hF;cases hb:fn.body with
    | none=>rw[hb] at h;simp at h
    | some c =>
     rw[hb] at h;simp only at h;unfold funX at h;obtain⟨hlen0,h⟩:=zk h;simp only[Bool.and_eq_true,decide_eq_true_eq] at hlen0;obtain⟨hlen0,hloops⟩:=hlen0;obtain⟨hle,h⟩:=zBU hlen0 h;have hex:=execX_run (E:=E) (X:=X) (F:=X.fx f) (M:=n) c n (Nat.le_refl n) 0 0 (by omega) (endX E (E.fresh f) fn) (λe st=>bnd (finK E (E.fresh f) fn e st) (λr0=>some (cnCR E (E.fresh f) fn r0)))
      (λj _ st=>rfl) (λq _ e st h=>qG h) YX n (Nat.le_refl n) (entry fn ds) h
     refine⟨⟨fn,hf,hname,by rw[hb];rfl⟩,λS w vals hglob hlt hlen hrv=>?_⟩
     refine calls_of_wp hf hb ?_;have hR:Rel E w.heap.size S (λ_=>none) (entry fn ds) { tmps:=vals.toArray++Array.replicate (fn.ntmps - vals.toArray.size) undef,defers:=[] } w:=by
      refine⟨hglob,λt v hv=>?_,λb ob hb=>?_,λb b' ob ob' cb h1=>?_,hlt,Nat.le_refl _,rfl⟩
      ·exact entry_tm hlen hrv hle t v hv
      ·unfold slot at hb;simp only[entry,List.getElem?_replicate] at hb;split at hb
       ·rename_i hx;split at hx <;> simp at hx
       ·cases hb
      ·unfold slot at h1;simp only[entry,List.getElem?_replicate] at h1;split at h1
       ·rename_i hx;split at hx <;> simp at hx
       ·cases h1
     refine J2 hE.D hE.mixed (zAa ih) c hex hR λex st' S' φ' a' w' k1 k2 k3=>?_
     obtain⟨r0,k4,k5⟩:=bind_some k1;injection k5 with k5
     cases ex with
     | exit id=>simp[finK] at k4
     | normal =>
      obtain⟨h1,v,h2,h3⟩:=Jt hE.D k2 k3 k4;exact⟨h1,v,h2,v,rfl,k5 ▸ qe h3⟩
     | ret =>
      obtain⟨h1,v,h2,h3⟩:=Jt hE.D k2 k3 k4;exact⟨h1,v,h2,v,rfl,k5 ▸ qe h3⟩
theorem jk{P:Program}{E:Env}{o:Orc}(hE:EnvOKo P E o)(X:XC):jw P E (QU o E X):=by intro f ds r h;obtain⟨n,h⟩:=Jj.1 h;exact callXo_sound hE X n f ds r h
end Go.Am
namespace Go.Am
open Go.Proofs
open Go Go.RowKit
mutual
def nz(L:Nat->List Nat):DV->Bool
 | .sl sz xs=>(decide (0<sz) || xs.isEmpty) && nzL L xs
 | .agg _ fs=>nzL L fs
 | .dp x=>nz L x && decide (0<Jb L (.d x))
 | .fn _ x y=>nzL L x && nzL L y
 | .mp ks vs=>nzL L ks && nzL L vs
 | .ifc _ x=>nz L x
 | _=>true
def nzL(L:Nat->List Nat):List DV->Bool
 | []=>true
 | x :: xs=>nz L x && nzL L xs
end
theorem Yh{L:Nat->List Nat}:∀{xs:List DV},nzL L xs=true->∀i (h:i<xs.length),nz L xs[i]=true
 | [],_,i,h=>by simp at h
 | x :: xs,hn,i,h=>by
  simp only[nzL,Bool.and_eq_true] at hn;cases i with
  | zero=>exact hn.1
  | succ i=>exact Yh hn.2 i (by simpa using h)
theorem zAy{L:Nat->List Nat}:∀{xs:List DV},(∀x∈xs,nz L x=true)->nzL L xs=true
 | [],_=>rfl
 | x :: xs,h=>by simp only[nzL,Bool.and_eq_true];exact⟨h x (by simp),zAy λy hy=>h y (by simp[hy])⟩
mutual
def nzV(L:Nat->List Nat):AV->Bool
 | .d x=>nz L x
 | .agg _ fs=>nzVL L fs
 | .fn _ x y=>nzVL L x && nzVL L y
 | _=>true
def nzVL(L:Nat->List Nat):List AV->Bool
 | []=>true
 | x :: xs=>nzV L x && nzVL L xs
end
theorem QL{L:Nat->List Nat}:∀{xs:List AV},nzVL L xs=true->∀i (h:i<xs.length),nzV L xs[i]=true
 | [],_,i,h=>by simp at h
 | x :: xs,hn,i,h=>by
  simp only[nzVL,Bool.and_eq_true] at hn;cases i with
  | zero=>exact hn.1
  | succ i=>exact QL hn.2 i (by simpa using h)
def nzB(L:Nat->List Nat):Option OB->Bool
 | some ⟨_,.dc _ xs⟩=>nzL L xs
 | some ⟨_,.ac _ xs⟩=>nzVL L xs
 | some ⟨_,.mp ks vs⟩=>nzL L ks && nzL L vs
 | _=>true
def nzSt(L:Nat->List Nat)(st:St):Bool:=nzVL L st.tm && st.hp.all (nzB L)
def Odd(o:Obj):Prop:=(∀cs t s,o≠.cells cs t s)/\(∀es c,o≠.map es c)/\∀s p,o≠.stringIter s p
section
variable{L:Nat->List Nat}{S:Nat->Prop}{φ:Nat->Option Nat}{w:World}{l:Nat}{o:Obj}
def cutS(S:Nat->Prop)(l:Nat):Nat->Prop:=λb=>S b/\b≠l
theorem cell_ne(ho:w.heap[l]? = some o)(hx:Odd o){ad:Addr}{u:Value}(h:w.cell? ad=some u):ad.block≠l:=by
 rintro rfl;unfold World.cell? at h;rw[ho] at h;cases o with
 | cells cs t s=>exact hx.1 cs t s rfl
 | _=>simp at h
theorem RD.cut(ho:w.heap[l]? = some o)(hx:Odd o){x:DV}{cs:List Value}(h:RD L S w x cs)(hn:nz L x=true):RD L (cutS S l) w x cs:=by
 induction h with
 | bool b=>exact .bool b
 | int k n=>exact .int k n
 | flt k b=>exact .flt k b
 | cpx k a b=>exact .cpx k a b
 | str s=>exact .str s
 | nl a=>exact .nl a
 | nilFn=>exact .nilFn
 | nilPtr=>exact .nilPtr
 | nilMp=>exact .nilMp
 | nilIf=>exact .nilIf
 | sl sz xs a n c css hn1 hc hl _ hz hm ih =>
  simp only[nz,Bool.and_eq_true,Bool.or_eq_true,decide_eq_true_eq] at hn;refine .sl sz xs a n c css hn1 hc hl (λi h h'=>ih i h h' (Yh hn.2 i h)) hz λh0=>?_
  obtain⟨ad,e,hsp,hs,hcell⟩:=hm h0;refine⟨ad,e,hsp,⟨hs,?_⟩,hcell⟩;have hsz:0<sz:=by
   rcases hn.1 with h | h
   ·exact h
   ·simp at h;subst h;simp at hn1;omega
  have hcl:0<css.length:=by omega
  have hc0:=hz css[0] (List.getElem_mem hcl);obtain⟨u,rest,hu⟩:∃u rest,css.flatten=u :: rest:=by
   cases css with
   | nil=>simp at hcl
   | cons c r =>
    simp at hc0;cases c with
    | nil=>simp at hc0;omega
    | cons u c=>exact⟨u,c++r.flatten,by simp⟩
  have:=hcell 0 u (by rw[hu];rfl)
  have hne:=cell_ne ho hx this
  rwa [JX] at hne
 | agg tag fs css hl _ hz ih =>
  simp only[nz] at hn;exact .agg tag fs css hl (λi h h'=>ih i h h' (Yh hn i h)) hz
 | dp x ad cs hsp hs hm hr hxt ih =>
  simp only[nz,Bool.and_eq_true,decide_eq_true_eq] at hn;refine .dp x ad cs hsp ⟨hs,?_⟩ hm (ih hn.1) hxt;have hlen:=hr.len;cases cs with
  | nil=>simp at hlen;omega
  | cons u cs =>
   have hne:=cell_ne ho hx (hm 0 u rfl)
   rwa [JX] at hne
 | fn f x y vx vy hx' hy _ h2 _ h4 ih1 ih3 =>
  simp only[nz,Bool.and_eq_true] at hn;exact .fn f x y vx vy hx' hy (λi h h'=>ih1 i h h' (Yh hn.1 i h)) h2 (λi h h'=>ih3 i h h' (Yh hn.2 i h)) h4
 | mp ks vs r es clock hs hr hk hv _ h2 _ h4 ih1 ih3 =>
  simp only[nz,Bool.and_eq_true] at hn;refine .mp ks vs r es clock ⟨hs,?_⟩ hr hk hv (λi h h'=>ih1 i h h' (Yh hn.1 i h)) h2 (λi h h'=>ih3 i h h' (Yh hn.2 i h)) h4
  rintro rfl;rw[hr] at ho;injection ho with ho
  exact hx.2.1 _ _ ho.symm
 | ifc t x v _ h2 ih =>
  simp only[nz] at hn;exact .ifc t x v (ih hn) h2
theorem RV.cut(ho:w.heap[l]? = some o)(hx:Odd o){x:DV}{v:Value}(ht:x.isTup=false)(h:RV L S w x v)(hn:nz L x=true):RV L (cutS S l) w x v :=
 RV.of ht ((RV.rd ht h).1.cut ho hx hn) (RV.rd ht h).2
theorem RA.cut(ho:w.heap[l]? = some o)(hx:Odd o){v:AV}{cs:List Value}(h:RA L S φ w v cs)(hn:nzV L v=true):RA L (cutS S l) φ w v cs:=by
 induction h with
 | d x cs h=>exact .d x cs (h.cut ho hx hn)
 | undef cs h1=>exact .undef cs h1
 | own b off len sz cb c hb hc hr=>exact .own b off len sz cb c hb hc hr
 | own0 b off sz a=>exact .own0 b off sz a
 | ptr b sz e p cb hb=>exact .ptr b sz e p cb hb
 | omp b r hb=>exact .omp b r hb
 | it b r hb=>exact .it b r hb
 | agg tag fs css hl _ hz ih =>
  simp only[nzV] at hn;exact .agg tag fs css hl (λi h h'=>ih i h h' (QL hn i h)) hz
 | fn f x y vx vy hx' hy _ h2 _ h4 ih1 ih3 =>
  simp only[nzV,Bool.and_eq_true] at hn;exact .fn f x y vx vy hx' hy (λi h h'=>ih1 i h h' (QL hn.1 i h)) h2 (λi h h'=>ih3 i h h' (QL hn.2 i h)) h4
theorem RAV.cut(ho:w.heap[l]? = some o)(hx:Odd o){v:AV}{u:Value}(ht:∀xs,v≠.d (.tup xs))(h:RAV L S φ w v u)(hn:nzV L v=true):RAV L (cutS S l) φ w v u:=by
 cases v with
 | undef=>trivial
 | d x=>exact RV.cut ho hx (by cases x <;> first | rfl | exact absurd rfl (ht _)) h hn
 | _=>exact⟨h.1.cut ho hx hn,h.2⟩
theorem RB.ne(ho:w.heap[l]? = some o)(hx:Odd o){b:Blk}{cb:Nat}(h:RB L S φ w b cb):cb≠l:=by
 rintro rfl;cases b with
 | dc sz xs=>obtain⟨cs,t,css,h1,_⟩:=h;rw[ho] at h1;injection h1 with h1;exact hx.1 _ _ _ h1
 | ac sz xs=>obtain⟨cs,t,css,h1,_⟩:=h;rw[ho] at h1;injection h1 with h1;exact hx.1 _ _ _ h1
 | mp ks vs=>obtain⟨es,c,h1,_⟩:=h;rw[ho] at h1;injection h1 with h1;exact hx.2.1 _ _ h1
 | sit s p=>rw[show w.heap[cb]? = _ from h] at ho;injection ho with ho;exact hx.2.2 _ _ ho.symm
theorem RB.cut(ho:w.heap[l]? = some o)(hx:Odd o){b:Blk}{cb:Nat}{z:Bool}(h:RB L S φ w b cb)(hn:nzB L (some ⟨z,b⟩)=true):RB L (cutS S l) φ w b cb:=by
 cases b with
 | dc sz xs =>
  obtain⟨cs,t,css,h1,h2,h3,h4⟩:=h;exact⟨cs,t,css,h1,h2,λi a b=>(h3 i a b).cut ho hx (Yh hn i a),h4⟩
 | ac sz xs =>
  obtain⟨cs,t,css,h1,h2,h3,h4⟩:=h;exact⟨cs,t,css,h1,h2,λi a b=>(h3 i a b).cut ho hx (QL hn i a),h4⟩
 | mp ks vs =>
  simp only[nzB,Bool.and_eq_true] at hn;obtain⟨es,clock,h1,h2,h3,h4,h5⟩:=h;exact⟨es,clock,h1,h2,h3,λi a b=>⟨(h4 i a b).1.cut ho hx (Yh hn.1 i a),(h4 i a b).2⟩,λi a b=>⟨(h5 i a b).1.cut ho hx (Yh hn.2 i a),(h5 i a b).2⟩⟩
 | sit s p=>exact h
end
section
variable{E:Env}{base:Nat}{S:Nat->Prop}{φ:Nat->Option Nat}{st:St}{a:Act}{w:World}{l:Nat}{o:Obj}
def noTupV(st:St):Bool:=st.tm.all λv=>match v with | .d (.tup _)=>false | _=>true
theorem Rel.cut(ho:w.heap[l]? = some o)(hx:Odd o)(h:Rel E base S φ st a w)(hg:∀g x,E.glob g=some x->nz E.L (.dp x)=true)(ht:noTupV st=true)(hn:nzSt E.L st=true):Rel E base (cutS S l) φ st a w:=by
 unfold nzSt at hn;rw[Bool.and_eq_true] at hn;refine⟨⟨λg x e=>RV.cut ho hx rfl (h.glob.val g x e) (hg g x e),λg cs e=>⟨⟨(h.glob.tab g cs e).1,by
  rintro rfl;obtain⟨t,fr,hh⟩:=(h.glob.tab g cs e).2;rw[ho] at hh;injection hh with hh
  exact hx.1 _ _ _ hh⟩,(h.glob.tab g cs e).2⟩⟩,λt v hv=>?_,λb ob hob=>?_,h.inj,λb hb=>h.lt b hb.1,h.base,h.dfr⟩
 ·obtain⟨u,hu,hr⟩:=h.tm t v hv;obtain⟨hlt,rfl⟩:=List.getElem?_eq_some_iff.1 hv;refine⟨u,hu,hr.cut ho hx (λxs e=>?_) (QL hn.1 t hlt)⟩
  have:=List.all_eq_true.1 ht _ (List.getElem_mem hlt);rw[e] at this;simp at this
 ·obtain⟨cb,h1,h2,h3,h4⟩:=h.blk b ob hob;obtain⟨z,bk⟩:=ob;have hm:some (⟨z,bk⟩:OB)∈st.hp:=by
   unfold slot at hob;split at hob
   ·rename_i x hx';cases hob;exact List.mem_iff_getElem?.2 ⟨b,hx'⟩
   ·cases hob
  have hnb:=List.all_eq_true.1 hn.2 _ hm;refine⟨cb,h1,h2,h3.cut ho hx (z:=z) hnb,⟨λhh=>h4.1 hh.1,λhh=>⟨h4.2 hh,h3.ne ho hx⟩⟩⟩
theorem Rel.le{s t:St}(hle:Le [] s t)(h:Rel E base S φ t a w):Rel E base S φ s a w:=by
 have hs:=hle.hle;refine⟨h.glob,λi v hv=>?_,λb ob hob=>h.blk b ob (hs b ob hob),λb b' ob ob' c h1 h2=>h.inj b b' ob ob' c (hs _ _ h1) (hs _ _ h2),h.lt,h.base,h.dfr⟩
 rcases hle.tm i with ⟨h1,h2⟩ | h1
 ·obtain⟨x,hx⟩:=Option.isSome_iff_exists.1 h2;obtain⟨u,hu,_⟩:=h.tm i x hx;rw[h1] at hv;injection hv with hv;subst hv
  exact⟨u,hu,trivial⟩
 ·exact h.tm i v (h1 ▸ hv)
theorem Rel.turn(ho:w.heap[l]? = some o)(hx:Odd o)(hS:¬S l)(h:Rel E base S φ st a w)(o':Obj):Rel E base S φ st a (w.putObj l o'):=by
 have hlt:l<w.heap.size:=(Array.getElem?_eq_some_iff.1 ho).1;have hb:∀k,k≠l->(w.putObj l o').heap[k]? = w.heap[k]?:=λk hk=>World.putObj_heap_other hk
 have hr:∀cb n,Room w cb n->Room (w.putObj l o') cb n:=by
  rintro cb n ⟨cs,t,h1,h2⟩;refine⟨cs,t,(hb cb ?_).trans h1,h2⟩;rintro rfl;rw[ho] at h1;injection h1 with h1
  exact hx.1 _ _ _ h1
 have k:Keep S S φ φ w (w.putObj l o'):=⟨λ_ h=>h,λb hb'=>hb b (by rintro rfl;exact hS hb'),λ_ _ h=>h,λb cb n _ hr'=>hr cb n hr'⟩
 have hsz:(w.putObj l o').heap.size=w.heap.size:=by simp
 refine⟨h.glob.mono k.sub k.heap,h.tm.mono k,λb ob hob=>?_,h.inj,λb hb'=>by rw[hsz];exact h.lt b hb',by rw[hsz];exact h.base,h.dfr⟩
 obtain⟨c,hc,h1,h2,h3⟩:=h.blk b ob hob;exact⟨c,hc,h1,h2.mono k (hb c (h2.ne ho hx)),h3⟩
theorem Rel.stay(ho:w.heap[l]? = some o)(hx:Odd o)(h:Rel E base S φ st a w):Rel E base (λb=>S b\/b=l) φ st a w:=by
 have hlt:l<w.heap.size:=(Array.getElem?_eq_some_iff.1 ho).1;have k:Keep S (λb=>S b\/b=l) φ φ w w:=⟨λ_ h=>.inl h,λ_ _=>rfl,λ_ _ h=>h,λ_ _ _ _ h=>h⟩
 refine⟨h.glob.mono k.sub k.heap,h.tm.mono k,λb ob hob=>?_,h.inj,λb hb=>hb.elim (h.lt b) (λe=>e ▸ hlt),h.base,h.dfr⟩
 obtain⟨c,hc,h1,h2,h3⟩:=h.blk b ob hob;exact⟨c,hc,h1,h2.mono k rfl,⟨λhh=>hh.elim h3.1 (λe=>absurd e (h2.ne ho hx)),λhh=>.inl (h3.2 hh)⟩⟩
end
end Go.Am
namespace Go.Am
open Go.Proofs
open Go Go.RowKit
def KeepD(D:List Nat)(a a':Act):Prop:=∀i:Nat,i ∉ D->a'.tmps[i]? = a.tmps[i]?
theorem KeepD.refl(D:List Nat)(a:Act):KeepD D a a:=λ_ _=>rfl
theorem KeepD.trans{D:List Nat}{a b c:Act}(h:KeepD D a b)(k:KeepD D b c):KeepD D a c:=λi hi=>(k i hi).trans (h i hi)
def dstIn(D:List Nat)(o:Oper):Bool:=match o.dst with | some d=>D.contains d | none=>true
def dstsIn(D:List Nat)(ops:Array Oper):Bool:=ops.toList.all (dstIn D)
def dstsC(D:List Nat):Code->Bool
 | .region _ ops _=>dstsIn D ops
 | .seq x y=>dstsC D x && dstsC D y
 | .block _ c=>dstsC D c
 | .cond _ x y=>dstsC D x && dstsC D y
 | _=>true
theorem KeepD.put{D:List Nat}{a0 a:Act}(h:KeepD D a0 a){o:Oper}(hd:dstIn D o=true)(v:Value):KeepD D a0 (a.put o.dst v):=by
 intro i hi;unfold dstIn at hd;cases ho:o.dst with
 | none=>exact h i hi
 | some d =>
  rw[ho] at hd;simp only[List.contains_iff_mem] at hd;have hne:d≠i:=by rintro rfl;exact hi hd
  simp only[Act.put];rw[Array.getElem?_setIfInBounds_ne hne];exact h i hi
section
variable{F:Fence}{P:Program}{ops:Array Oper}{Q:Exit->Act->World->Prop}{n:Nat}{D:List Nat}{a0:Act}
def QK(D:List Nat)(a0:Act)(Q:Exit->Act->World->Prop):Exit->Act->World->Prop:=λe a w=>Q e a w/\(e=.normal->KeepD D a0 a)
theorem QK_out(h:LetsOut Q):LetsOut (QK D a0 Q):=by obtain⟨a,w,h⟩:=h;exact⟨a,w,h,λe=>by cases e⟩
theorem upon_keep{o:Oper}{a:Act}{K K':Act->World->Prop}(hd:dstIn D o=true)(h:∀a w,K a w->KeepD D a0 a->K' a w)(ha:KeepD D a0 a){r:Result Next}(hh:o.uponIn F n P a K Q r):o.uponIn F n P a K' (QK D a0 Q) r:=by
 cases r with
 | ok x w' =>
  cases x with
  | value v=>exact h _ _ hh (ha.put hd v)
  | skip=>exact h _ _ hh (ha.put hd undef)
  | defer d=>exact h _ _ hh (KeepD.put (a:={ a with defers:=d :: a.defers }) ha hd undef)
  | enter f args =>
   refine⟨hh.1,hh.2.mono λe w'' he=>?_⟩
   cases e with
   | returned v=>exact h _ _ he (ha.put hd v)
   | panicked c=>exact⟨he,λe=>by cases e⟩
   | outgrown=>exact QK_out he
  | row rw args=>exact⟨hh.1,hh.2.mono λv w'' he=>h _ _ he (ha.put hd v)⟩
  | round l f t a b =>
   refine⟨hh.1,hh.2.mono λe w'' he=>?_⟩
   cases e with
   | returned v=>exact h _ _ he (ha.put hd v)
   | panicked c=>exact⟨he,λe=>by cases e⟩
   | outgrown=>exact QK_out he
  | _=>exact hh.elim
 | halt x w' =>
  cases x <;> simp only[Oper.uponIn] at hh ⊢ <;> first | exact hh | exact⟨hh,λe=>by cases e⟩
theorem dstIn_of(hd:dstsIn D ops=true){i:Nat}{o:Oper}(ho:ops[i]? = some o):dstIn D o=true:=by obtain⟨hi,rfl⟩:=Array.getElem?_eq_some_iff.1 ho;exact List.all_eq_true.1 hd _ (by simp)
theorem Qd(hd:dstsIn D ops=true):∀(is:List Nat) (a:Act) (w:World),wpOpsIn F n P ops Q is a w->KeepD D a0 a->wpOpsIn F n P ops (QK D a0 Q) is a w
 | [],a,w,h,ha=>⟨h,λ_=>ha⟩
 | i :: is,a,w,h,ha=>by
  simp only[wpOpsIn] at h ⊢;cases ho:ops[i]? with
  | none=>rw[ho] at h;exact Qd hd is a w h ha
  | some o =>
   rw[ho] at h;simp only at h ⊢;split
   ·rename_i hw;rw[if_pos hw] at h;exact⟨h.1,upon_keep (dstIn_of hd ho) (λa w h ha=>Qd hd is a w h ha) ha h.2⟩
   ·rename_i hw;rw[if_neg hw] at h;exact⟨h.1,Qd hd is _ w h.2 (ha.put (dstIn_of hd ho) undef)⟩
theorem Qe{md:Region.Mode}(hd:dstsIn D ops=true):∀(fuel:Nat) (listed:Array Bool) (a:Act) (w:World),wpAnyIn F n P md ops Q fuel listed a w->KeepD D a0 a->wpAnyIn F n P md ops (QK D a0 Q) fuel listed a w
 | 0,listed,a,w,h,ha=>⟨h.1,h.2,λ_=>ha⟩
 | fuel+1,listed,a,w,h,ha=>by
  refine⟨λe=>⟨h.1 e,λ_=>ha⟩,λi hi=>?_⟩
  have hh:=h.2 i hi;unfold wpOpIn at hh ⊢;cases ho:ops[i]? with
  | none=>rw[ho] at hh;exact Qe hd fuel _ a w hh ha
  | some o =>
   rw[ho] at hh;simp only at hh ⊢;split
   ·rename_i hw;rw[if_pos hw] at hh;exact⟨hh.1,upon_keep (dstIn_of hd ho) (λa w h ha=>Qe hd fuel _ a w h ha) ha hh.2⟩
   ·rename_i hw;rw[if_neg hw] at hh;exact⟨hh.1,Qe hd fuel _ _ w hh.2 (ha.put (dstIn_of hd ho) undef)⟩
end
section
variable{P:Program}{E:Env}{call:FuncId->List DV->Option CR}{base:Nat}{S:Nat->Prop}{φ:Nat->Option Nat}{st:St}{a:Act}{w:World}{l m:Nat}{D:List Nat}
theorem runRegion_soundK(hD:DOK P E)(hm:P.follows .mixedOrders=true)(hc:jw P E call){id:Nat}{ops:Array Oper}(hn:noDef ops=true)(hd:dstsIn D ops=true){draw:Bool}{K:St->Option CR}{r:CR}{Q:Exit->Act->World->Prop}(hQ:¬LetsOut Q)(h:JU E call ops.toList draw st K=some r)
  (hR:Rel E base S φ st a w) (hK:∀st' S' φ' a' w',K st'=some r->Rel E base S' φ' st' a' w'->Grow base S S' w w'->KeepD D a a'->Q .normal a' w'):(Code.region id ops draw).wpIn (Fence.wide.inRound l) m P Q a w:=by
 have h1:¬LetsOut (λe a' w'=>KeepD D a a'->Q e a' w')->True:=λ_=>trivial
 refine wpIn_mono (Q:=QK D a (λe a' w'=>e=.normal/\(KeepD D a a'->Q e a' w'))) ?_ (λe a' w' hq=>?_)
 ·cases draw with
  | false =>
   have hQ':¬LetsOut (λe a' w'=>e=Exit.normal/\(KeepD D a a'->Q e a' w')):=by rintro⟨a,w,e,_⟩;cases e
   refine wpIn_region (Qd hd _ _ _ (wpOps_In hn hQ' _ _ _ ?_) (KeepD.refl D a));have:=Yo hD hc (Q:=λe a' w'=>e=Exit.normal/\(KeepD D a a'->Q e a' w')) ops.toList 0 (by simp) (Nat.zero_le _) h hR (λst' S' φ' a' w' k1 k2 k3=>⟨rfl,λk4=>hK st' S' φ' a' w' k1 k2 k3 k4⟩)
   rw[List.range_eq_range'];simpa using this
  | true =>
   have hQ':¬LetsOut (λe a' w'=>e=Exit.normal/\(KeepD D a a'->Q e a' w')):=by rintro⟨a,w,e,_⟩;cases e
   refine wpIn_region_any hm (Qe hd _ _ _ _ (wpAny_In hn hQ' _ _ _ _ ?_) (KeepD.refl D a));simp only[JU] at h;obtain⟨hok,h⟩:=zJ h;have hs:=stat_of hok;obtain⟨stf,hseq,hKf⟩:=zAL ops.toList.zipIdx _ h;obtain⟨hRd,hGd⟩:=hR.drew;obtain⟨φ1,hR1⟩:=hRd.clearL (anews ops.toList);have hz:∀p∈ops.toList.zipIdx,ops.toList[p.2]? = some p.1:=λp hp=>by obtain⟨k,hk⟩:=List.mem_iff_getElem?.1 hp;simp only[List.getElem?_zipIdx,Option.map_eq_some_iff] at hk;obtain⟨x,hx,e⟩:=hk;subst e;simpa using hx
   refine wpAny_of (Q:=λe a' w'=>e=Exit.normal/\(KeepD D a a'->Q e a' w')) hD hc hs ops.size (Array.replicate ops.size false) ops.toList.zipIdx (by simp) (λi hi=>?_) hz ?_ (λj o ho hd=>?_) (Inv.start _ _ st) (by simp) hR1 hseq (λS' φ' a' w' k1 k2=>⟨rfl,λk4=>hK stf S' φ' a' w' hKf k1 (hGd.trans k2) k4⟩)
   ·constructor
    ·intro _;exact⟨ops[i],by rw[List.mem_iff_getElem?];exact⟨i,by simp[List.getElem?_zipIdx,hi]⟩⟩
    ·intro _;simp[hi]
   ·rw[List.pairwise_iff_getElem];intro i j hi hj hij;simp;exact hij
   ·exact absurd (by rw[List.mem_iff_getElem?];exact⟨j,by simp only[List.getElem?_zipIdx,ho];simp⟩) (hd o)
 ·obtain⟨⟨rfl,h2⟩,h3⟩:=hq;exact h2 (h3 rfl)
theorem exec_soundK(hD:DOK P E)(hm:P.follows .mixedOrders=true)(hc:jw P E call){n:Nat}{r:CR}:∀(c:Code) (_:inR c=true) (_:dstsC D c=true) {K:Ex->St->Option CR} {S:Nat->Prop} {φ:Nat->Option Nat} {st:St} {a:Act} {w:World} {Q:Exit->Act->World->Prop} (_:¬LetsOut Q),
  exec E n call c st K=some r->Rel E base S φ st a w->(∀ex st' S' φ' a' w',K ex st'=some r->Rel E base S' φ' st' a' w'->Grow base S S' w w'->KeepD D a a'->Q (zAn ex) a' w')->c.wpIn (Fence.wide.inRound l) m P Q a w:=by
 intro c;induction c with
 | skip=>intro _ _ K S φ st a w Q hQ h hR hK;exact wpIn_skip (hK .normal st S φ a w h hR Grow.refl (KeepD.refl _ _))
 | region id ops draw=>intro hi hd K S φ st a w Q hQ h hR hK;exact runRegion_soundK hD hm hc hi hd hQ h hR λst' S' φ' a' w' k1 k2 k3 k4=>hK .normal st' S' φ' a' w' k1 k2 k3 k4
 | seq x y ihx ihy =>
  intro hi hd K S φ st a w Q hQ h hR hK;simp only[inR,Bool.and_eq_true] at hi;simp only[dstsC,Bool.and_eq_true] at hd;refine wpIn_seq (ihx hi.1 hd.1 (K:=qm (λst'=>exec E n call y st' K) K) (λhx=>hQ hx) h hR λex st' S' φ' a' w' k1 k2 k3 k4=>?_)
  cases ex with
  | normal=>exact ihy hi.2 hd.2 hQ k1 k2 λex st2 S2 φ2 a2 w2 j1 j2 j3 j4=>hK ex st2 S2 φ2 a2 w2 j1 j2 (k3.trans j3) (k4.trans j4)
  | exit id=>exact hK (.exit id) st' S' φ' a' w' k1 k2 k3 k4
  | ret=>exact hK .ret st' S' φ' a' w' k1 k2 k3 k4
 | cond c x y ihx ihy =>
  intro hi hd K S φ st a w Q hQ h hR hK;simp only[inR,Bool.and_eq_true] at hi;simp only[dstsC,Bool.and_eq_true] at hd;simp only[exec] at h;obtain⟨v,hv,h⟩:=bind_some h;obtain⟨t,ht,h⟩:=bind_some h;have hc:=asB_pick ht (hR.ev c v hv);cases t with
  | true=>exact wpIn_cond_true hc (ihx hi.1 hd.1 hQ h hR hK)
  | false=>exact wpIn_cond_false hc (ihy hi.2 hd.2 hQ h hR hK)
 | block id c ih =>
  intro hi hd K S φ st a w Q hQ h hR hK;refine wpIn_block (ih hi hd (K:=QW id K) (λhx=>hQ hx) h hR λex st' S' φ' a' w' k1 k2 k3 k4=>?_)
  cases ex with
  | normal=>exact hK .normal st' S' φ' a' w' k1 k2 k3 k4
  | ret=>exact hK .ret st' S' φ' a' w' k1 k2 k3 k4
  | exit i =>
   simp only[QW] at k1;simp only[zAn,Exit.inBlock];split at k1
   ·rename_i e;rw[if_pos e];exact hK .normal st' S' φ' a' w' k1 k2 k3 k4
   ·rename_i e;rw[if_neg e];exact hK (.exit i) st' S' φ' a' w' k1 k2 k3 k4
 | exit id=>intro _ _ K S φ st a w Q hQ h hR hK;exact wpIn_exit (hK (.exit id) st S φ a w h hR Grow.refl (KeepD.refl _ _))
 | _=>intro hi;simp[inR] at hi
end
end Go.Am
namespace Go.Am
open Go.Proofs
open Go Go.RowKit
attribute [local go_sem] Oper.semAt_some
open Classical in
noncomputable def KLe(t:St):Ex->St->Option CR:=λe s=>if e=.normal/\Le [] t s then some (.val .nl) else none
theorem zBE{t s:St}{e:Ex}(h:KLe t e s=some (.val .nl)):e=.normal/\Le [] t s:=by
 unfold KLe at h;split at h
 ·assumption
 ·cases h
def asgC(i1 i2:Nat)(t1 t2 p1 p2:Tmp)(ty:TypeId)(s1 s2:String):Code :=
 .seq (.region i1 #[{ dst:=some t1,op:=.assign (.tmp p1),type:=ty,pos:=s1,after:=#[],guard:=none }] false)
  (.region i2 #[{ dst:=some t2,op:=.assign (.tmp p2),type:=ty,pos:=s2,after:=#[],guard:=none }] false)
theorem asg_wp{P:Program}{F:Fence}{l n:Nat}{i1 i2:Nat}{t1 t2 p1 p2:Tmp}{ty:TypeId}{s1 s2:String}{K:Act->World->Prop}{a:Act}{w:World}(h:K ((a.put (some t1) (a.eval (.tmp p1))).put (some t2) ((a.put (some t1) (a.eval (.tmp p1))).eval (.tmp p2))) w) :
  (asgC i1 i2 t1 t2 p1 p2 ty s1 s2).wpIn (F.inRound l) n P (Exit.then K (λ_ _ _=>False)) a w:=by
 refine wpIn_seq (wpIn_region ?_);simp only[List.size_toArray,List.length_cons,List.length_nil,Nat.zero_add,List.range_succ,List.range_zero,List.nil_append,wpOpsIn,List.getElem?_toArray,List.getElem?_cons_zero,Region.wanted,if_true,Oper.wpIn];refine⟨λf hf=>by simp[Oper.about] at hf,?_⟩
 rw[show(F.inRound l).round=some l from rfl,Oper.semAt_eq _ _ _ (λc h=>by cases h)]
 simp only[go_sem];refine wpIn_region ?_;simp only[List.size_toArray,List.length_cons,List.length_nil,Nat.zero_add,List.range_succ,List.range_zero,List.nil_append,wpOpsIn,List.getElem?_toArray,List.getElem?_cons_zero,Region.wanted,if_true,Oper.wpIn];refine⟨λf hf=>by simp[Oper.about] at hf,?_⟩
 rw[show(F.inRound l).round=some l from rfl,Oper.semAt_eq _ _ _ (λc h=>by cases h)]
 simp only[go_sem];exact h
theorem QA{n:Nat}{w W:World}(hB:Below n w W)(hn:n<=W.heap.size){l:Nat}(hl:n<=l)(o:Obj):Below n w (W.putObj l o) :=
 hB.grown (grownBy_putObj' W l o) hn (λk e=>by cases e;exact hl)
theorem odd_loop(r:Loop):Odd (.loop r):=⟨(λ_ _ _ h=>by cases h),(λ_ _ h=>by cases h),(λ_ _ h=>by cases h)⟩
theorem odd_def(d:Option (List Deferred)):Odd (.deferred d):=⟨(λ_ _ _ h=>by cases h),(λ_ _ h=>by cases h),(λ_ _ h=>by cases h)⟩
theorem ev_pairs{E:Env}{base:Nat}{S:Nat->Prop}{φ:Nat->Option Nat}{st:St}{a:Act}{w:World}(hR:Rel E base S φ st a w){g:Operand}{f:FuncId}{x:DV}(hg:evO E st.tm g=some (.d (.fn f [] [.dp x]))) :
  ∃ad cs,a.eval g=.func (.func f) #[] #[.pointer (some ad)]/\RD E.L S w x cs/\(∀j u,cs[j]? = some u->w.cell? (ad.add j)=some u)/\ad.spot=none:=by
 have h:=hR.ev g _ hg;have h:=(RV.rd (x:=.fn f [] [.dp x]) rfl h).1;have ha:∀v:Value,RD E.L S w (.fn f [] [.dp x]) (vcs v)->aggV v=false->∃ad cs,v=.func (.func f) #[] #[.pointer (some ad)]/\RD E.L S w x cs/\(∀j u,cs[j]? = some u->w.cell? (ad.add j)=some u)/\ad.spot=none:=by
  intro v hv hag;rw[jF hag] at hv;cases hv with
  | fn _ _ _ vx vy hx hy h1 h2 h3 h4 =>
   obtain rfl:vx=[]:=List.length_eq_zero_iff.1 (by simpa using hx)
   obtain⟨u,rfl⟩:∃u,vy=[u]:=List.length_eq_one_iff.1 (by simpa using hy)
   have h30:=h3 0 (by simp) (by simp)
   have h40:=h4 0 (by simp) (by simp)
   simp only[List.getElem_cons_zero] at h30 h40;rw[jF (by rw[h40];rfl)] at h30
   cases h30 with
   | dp _ ad cs hs hS hm hx hxt=>exact⟨ad,cs,rfl,hx,hm,hs⟩
 exact ha _ h (RV.rd (x:=.fn f [] [.dp x]) rfl (hR.ev g _ hg)).2
section
variable{E:Env}{call:FuncId->List DV->Option CR}{base:Nat}{S:Nat->Prop}{φ:Nat->Option Nat}{a:Act}{w:World}
theorem wp_pairs(hD:DOK Tryz.prog E)(hc:jw Tryz.prog E call){M n:Nat}{g:Operand}{t1 t2 p1 p2 i1 i2:Nat}{ty:TypeId}{s1 s2:String}{body:Code}{Q:Exit->Act->World->Prop}{tm:List AV}(hpk:Nat->List (Option OB))
  (hR:Rel E base S φ ⟨tm,hpk 0⟩ a w) (hn:(n:Int)<9223372036854775807) (hg:evO E tm g=some (.d (.fn 282 [] [.dp (.int .i64 n)])))
  (hgl:∀g x,E.glob g=some x->nz E.L (.dp x)=true) (hnt:noTupV ⟨tm,[]⟩=true) (hnz:nzVL E.L tm=true) (hnh:∀k,k<=(jL n).length->(hpk k).all (nzB E.L)=true)
  (D:List Nat) (hdead:∀i∈D,tm[i]? = some .undef\/tm[i]? = none) (hmD:p1∈D/\p2∈D/\t1∈D/\t2∈D) (hne:p1≠p2) (hne2:t1≠p2) (hlen:p1<tm.length/\p2<tm.length)
  (hi:inR body=true) (hd:dstsC D body=true)
  (hexec:∀k p,(jL n)[k]? = some p->exec E M call body ⟨putT (putT (putT (putT tm (some p1) (.d (.int .i64 p.1))) (some p2) (.d (.int .i64 p.2))) (some t1) (.d (.int .i64 p.1))) (some t2) (.d (.int .i64 p.2)),hpk k⟩ (KLe ⟨tm,hpk (k+1)⟩)=some (.val .nl))
  (hdone:∀S' φ' W,Rel E base S' φ' ⟨tm,hpk (jL n).length⟩ a W->Grow base S S' w W->¬S' w.heap.size->W.heap[w.heap.size]? = some (.deferred (some [])) ->
   Q .normal { a with defers:={ target:=.collected w.heap.size,args:=#[] } :: a.defers } W) :
  (Code.rangeFunc g #[p1,p2] (asgC i1 i2 t1 t2 p1 p2 ty s1 s2) body).wpIn Fence.wide 0 Tryz.prog Q a w:=by
 obtain⟨ad,cs,hev,hcs,hcell,hsp⟩:=ev_pairs hR hg;have hb0:base<=w.heap.size:=hR.base;let l:=w.heap.size+1
 let Dd:=w.heap.size
 let I:Nat->World->Prop:=λk W=>k<=(jL n).length/\∃S' φ',Rel E base S' φ' ⟨tm,hpk k⟩ a W/\Grow base S S' w W/\¬S' l/\¬S' Dd
 refine zAH (C:=λW=>W.cell? ad=some (.int .i64 n)) (xs:=(jL n).map encP) hev ?_ (pairs_seq ad n hn) ?_ I ?_ ?_ ?_
  (λx=>(({ tmps:=((#[p1,p2]:Array Tmp).zip x).foldl (λt (p,v)=>t.setIfInBounds p v) a.tmps,defers:=[] }:Act).put (some t1) (({ tmps:=((#[p1,p2]:Array Tmp).zip x).foldl (λt (p,v)=>t.setIfInBounds p v) a.tmps,defers:=[] }:Act).eval (.tmp p1))).put (some t2)
   ((({ tmps:=((#[p1,p2]:Array Tmp).zip x).foldl (λt (p,v)=>t.setIfInBounds p v) a.tmps,defers:=[] }:Act).put (some t1) (({ tmps:=((#[p1,p2]:Array Tmp).zip x).foldl (λt (p,v)=>t.setIfInBounds p v) a.tmps,defers:=[] }:Act).eval (.tmp p1))).eval (.tmp p2)))
  ?_ ?_ ?_
 ·exact Go.Proofs.enters_of Tryz.func282 (by kernel_rfl) rfl
 ·intro x hx;obtain⟨p,_,rfl⟩:=List.mem_map.1 hx;rfl
 ·rintro k W r o ⟨hk,S',φ',hR',hG,h1,h2⟩ hl;refine⟨hk,S',φ',hR'.turn hl (odd_loop r) h1 o,⟨QA hG.below hR'.base (by omega) o,hG.sub,hG.new,λb hb=>?_⟩,h1,h2⟩
  have:=hR.lt b hb;rw[World.putObj_heap_other (by omega)]
  exact hG.kept b hb
 ·rintro k W ⟨hk,S',φ',hR',hG,h1,h2⟩;obtain⟨ad',cs',hev',hcs',hcell',hsp'⟩:=ev_pairs hR' hg;rw[hev] at hev';simp only[Value.func.injEq,Array.mk.injEq,List.cons.injEq,Value.pointer.injEq,Option.some.injEq,and_true,true_and] at hev';obtain rfl:ad=ad':=by simpa using hev'
  cases hcs' with
  | int _ _ =>
   have:=hcell' 0 _ rfl
   rwa [jo hsp',Nat.add_zero,show(⟨ad.block,ad.off,none⟩:Addr)=ad by rw[<-hsp']] at this
 ·intro r;have hB:Below base w ((w.alloc (.deferred (some []))).alloc (.loop r)):=((Below.refl _ w).alloc hb0 _).alloc (by simp;omega) _
  have hold:∀b,b<w.heap.size->((w.alloc (.deferred (some []))).alloc (.loop r)).heap[b]? = w.heap[b]?:=λb hb=>(Below.heap_alloc _ _ b (by simp;omega)).trans (Below.heap_alloc _ _ b hb)
  have hG:Grow base S S w ((w.alloc (.deferred (some []))).alloc (.loop r)):=⟨hB,λ_ h=>h,λ_ h=>.inl h,λb hb=>hold b (hR.lt b hb)⟩
  refine⟨Nat.zero_le _,S,φ,hR.world hG (λb hb=>?_) (λ_ _ h=>h) hold,hG,λh=>?_,λh=>?_⟩
  ·have:=hR.lt b hb;simp;omega
  ·have:=hR.lt _ h;omega
  ·have:=hR.lt _ h;exact absurd this (Nat.lt_irrefl _)
 ·intro k x W K hx hK;exact asg_wp hK
 ·rintro k x W r hx ⟨hk,S',φ',hR',hG,h1,h2⟩ hl hDd;rw[List.getElem?_map] at hx;cases hp:(jL n)[k]? with
  | none=>rw[hp] at hx;simp at hx
  | some p =>
  rw[hp] at hx;simp only[Option.map_some,Option.some.injEq] at hx;subst hx;have hklt:k<(jL n).length:=(List.getElem?_eq_some_iff.1 hp).1;have ha0:({ tmps:=((#[p1,p2]:Array Tmp).zip (encP p)).foldl (λt (p,v)=>t.setIfInBounds p v) a.tmps,defers:=[] }:Act)=(a.put (some p1) (.int .i64 p.1)).put (some p2) (.int .i64 p.2):=by
   have hd0:a.defers=[]:=hR.dfr;have:∀(t:Array Value) (d:List Deferred),d=[]->({ tmps:=t,defers:=[] }:Act)=⟨t,d⟩:=λt d h=>by rw[h]
   refine(this _ _ hd0).trans ?_;simp[encP,Act.put]
  rw[ha0];have hi64:∀m:Nat,RAV E.L (λb=>(S' b\/b=l)\/b=Dd) φ' W (.d (.int .i64 m)) (.int .i64 m):=λm=>⟨.int _ _,rfl⟩
  have hR2:=(((hR'.stay hl (odd_loop r)).stay hDd (odd_def _)).put (some p1) (hi64 p.1)).put (some p2) (hi64 p.2);have hR3:=hR2.put (some t1) (hR2.ev (.tmp p1) (.d (.int .i64 p.1)) (by simp[evO,putT,List.getElem?_set,hne.symm,hlen.1]))
  have hR4:=hR3.put (some t2) (hR3.ev (.tmp p2) (.d (.int .i64 p.2)) (by simp[evO,putT,List.getElem?_set,hne2,hlen.2]))
  refine exec_soundK hD (by kernel_rfl) hc body hi hd (by rintro⟨a,w,h,_⟩;cases h) (hexec k p hp) hR4 ?_
  intro ex st' S3 φ3 a3 W3 hK3 hR5 hG5 hkeep;obtain⟨rfl,hle⟩:=zBE hK3;have hkl:W3.heap[l]? = W.heap[l]?:=hG5.kept l (.inl (.inr rfl));have hkD:W3.heap[Dd]? = W.heap[Dd]?:=hG5.kept Dd (.inr rfl);refine⟨rfl,⟨by omega,?_⟩,hkl,hkD⟩
  have hR6:=hR5.le hle;have hnt':noTupV ⟨tm,hpk (k+1)⟩=true:=hnt;have hnz':nzSt E.L ⟨tm,hpk (k+1)⟩=true:=by simp only[nzSt,hnz,hnh (k+1) (by omega),Bool.and_self]
  have hR7:=(hR6.cut (hkl.trans hl) (odd_loop r) hgl hnt' hnz').cut (hkD.trans hDd) (odd_def _) hgl hnt' hnz';refine⟨_,φ3,⟨hR7.glob,?_,hR7.blk,hR7.inj,hR7.lt,hR7.base,hR.dfr⟩,⟨hG.below.trans hG5.below,λb hb=>?_,λb hb=>?_,λb hb=>?_⟩,λh=>h.1.2 rfl,λh=>h.2 rfl⟩
  ·intro i v hv;by_cases hiD:i∈D
   ·rcases hdead i hiD with e | e
    ·obtain⟨u,hu,_⟩:=hR.tm i _ e;rw[show tm[i]? = _ from hv] at e
     injection e with e;subst e
     exact⟨u,hu,trivial⟩
    ·rw[show tm[i]? = _ from hv] at e;cases e
   ·obtain⟨u,hu,hr⟩:=hR7.tm i v hv;refine⟨u,?_,hr⟩;rw[<-hu,hkeep i hiD];have n1:p1≠i:=by rintro rfl;exact hiD hmD.1
    have n2:p2≠i:=by rintro rfl;exact hiD hmD.2.1
    have n3:t1≠i:=by rintro rfl;exact hiD hmD.2.2.1
    have n4:t2≠i:=by rintro rfl;exact hiD hmD.2.2.2
    simp only[Act.put];rw[Array.getElem?_setIfInBounds_ne n4,Array.getElem?_setIfInBounds_ne n3,Array.getElem?_setIfInBounds_ne n2,Array.getElem?_setIfInBounds_ne n1]
  ·have:=hR.lt b hb;exact⟨⟨hG5.sub b (.inl (.inl (hG.sub b hb))),by show b≠w.heap.size+1;omega⟩,by show b≠w.heap.size;omega⟩
  ·rcases hG5.new b hb.1.1 with ((h | h) | h) | h
   ·exact hG.new b h
   ·exact absurd h hb.1.2
   ·exact absurd h hb.2
   ·exact .inr h
  ·exact(hG5.kept b (.inl (.inl (hG.sub b hb)))).trans (hG.kept b hb)
 ·rintro W ⟨_,S',φ',hR',hG,h1,h2⟩ hK;rw[List.length_map] at hR';exact hdone S' φ' W hR' hG h2 hK
end
end Go.Am
namespace Go.Am
open Go.Proofs
open Go
def sq1:Code->Code | .seq x _=>x | c=>c
def sq2:Code->Code | .seq _ y=>y | c=>c
def bk1:Code->Code | .block _ c=>c | c=>c
def rfA:Code->Code | .rangeFunc _ _ a _=>a | c=>c
def rfB:Code->Code | .rangeFunc _ _ _ b=>b | c=>c
noncomputable def pcX(f:FuncId)(c:Code)(st:St):Tr:=Ju EE XX (XX.fx f) c 0 0 st (λe st=>match e with | .normal=>.goto 0 st | _=>.fail)
noncomputable def k161:Code:=J7 EE 161
noncomputable def k161a:Code:=.seq (sq1 k161) (.seq (sq1 (sq2 k161)) (sq1 (sq1 (sq2 (sq2 k161)))))
noncomputable def k161r:Code:=bk1 (sq2 (sq1 (sq2 (sq2 k161))))
abbrev dWk(ru:ByteArray)(d wd:List DV):DV:=.agg 0 [.str ru,.sl 1 d,.sl 1 wd]
abbrev dCu(pw:List DV)(cut:Int):DV:=.agg 1 [.sl 1 pw,.int .i64 cut]
abbrev dPn(ps:List DV)(least:Int)(ru:ByteArray)(d wd pw:List DV)(cut:Int)(rs:List DV):DV:=.agg 6 [.sl 2 ps,.int .i64 least,dWk ru d wd,dCu pw cut,.agg 3 rs]
noncomputable def p161a(ps:List DV)(least:Int)(ru:ByteArray)(d wd pw:List DV)(cut:Int)(rs:List DV):Tr:=pcX 161 k161a (stOf 50 [(0,.d (dPn ps least ru d wd pw cut rs))] [])
noncomputable def k161b:Code:=rfB k161r
abbrev dSe(ps:List DV)(least:Int)(ru:ByteArray)(d wd pw:List DV)(cut:Int)(rs ns:List DV):DV:=.agg 16 [dPn ps least ru d wd pw cut rs,.agg 13 [dWk ru d wd,dCu pw cut,.agg 3 rs],.agg 15 ns]
def tm161(n:Int):List AV:=stTm 50 0 [(1,.ptr 1 415 0 []),(3,.ptr 3 1 0 []),(20,.d (.fn 282 [] [.dp (.int .i64 n)]))]
def hp161(ps:List DV)(least:Int)(ru:ByteArray)(d wd pw:List DV)(cut:Int)(rs ns:List DV):List (Option OB) :=
 stHp 50 0 [(1,⟨false,.dc 415 [dPn ps least ru d wd pw cut rs]⟩),(3,⟨false,.ac 1 [.ptr 16 892 0 []]⟩),(16,⟨false,.dc 892 [dSe ps least ru d wd pw cut rs ns]⟩)]
def rd161(n:Int)(j i:Nat):List AV:=putT (putT (putT (putT (tm161 n) (some 21) (.d (.int .i64 j))) (some 22) (.d (.int .i64 i))) (some 4) (.d (.int .i64 j))) (some 5) (.d (.int .i64 i))
noncomputable def p161c(j i:Nat)(n:Int)(ps:List DV)(least:Int)(ru:ByteArray)(d wd pw:List DV)(cut:Int)(rs ns:List DV):Tr:=pcX 161 k161b ⟨rd161 n j i,hp161 ps least ru d wd pw cut rs ns⟩
noncomputable def k200:Code:=J7 EE 200
noncomputable def k200z:Code:=sq2 (sq2 (sq2 k200))
noncomputable def k200b:Code:=rfB (bk1 (sq2 (sq1 k200z)))
def tm200(ru:ByteArray)(d wd ps:List DV)(sec x y:Int):List AV :=
 stTm 47 0 [(3,.d (.dp (dWk ru d wd))),(4,.d (.dp (.sl 2 ps))),(5,.d (.dp (.agg 9 [.int .i64 sec,.agg 1 [.int .i64 x,.int .i64 y]]))),(7,.ptr 7 1 0 [])]
noncomputable def hp200(j n:Nat)(row:List DV):List (Option OB):=stHp 47 0 [(7,⟨true,.ac 1 [.own 19 0 n 1]⟩),(19,⟨true,.ac 1 (List.replicate j .undef++[.own 20 0 n 1])⟩),(20,⟨false,.dc 1 row⟩)]
def rd200(j i:Nat)(ru:ByteArray)(d wd ps:List DV)(sec x y:Int):List AV :=
 putT (putT (tm200 ru d wd ps sec x y) (some 8) (.d (.int .i64 j))) (some 9) (.d (.int .i64 i))
noncomputable def p200c(j i n:Nat)(ru:ByteArray)(d wd ps:List DV)(sec x y:Int)(row:List DV):Tr:=pcX 200 k200b ⟨rd200 j i ru d wd ps sec x y,hp200 j n row⟩
end Go.Am
namespace Go.Proofs
open Go.Shelf
def Tryz.lays156_ren:Go.Shelf.Ren:=⟨λ| 156=>208 | 165=>268 | 166=>269 | 169=>270 | 240=>312 | 241=>313 | 276=>345 | 277=>346 | n=>n,λ| 31=>173 | 9=>9 | 3=>3 | 4=>4 | 0=>0 | 20=>20 | 72=>387 | 76=>329 | 70=>385 | 37=>51 | 75=>328 | 127=>422 | 164=>448 | 5=>5 | 80=>389 | n=>n,λ| n=>n⟩
theorem Tryz.lays156:Go.Proofs.Lays.n156 Tryz.prog Tryz.lays156_ren:={
 mixed:=by kernel_rfl
 f156:=Tryz.func208.trans (congrArg some (by kernel_rfl))
 f165:=Tryz.func268.trans (congrArg some (by kernel_rfl))
 f166:=Tryz.func269.trans (congrArg some (by kernel_rfl))
 f169:=Tryz.func270.trans (congrArg some (by kernel_rfl))
 f240:=Tryz.func312.trans (congrArg some (by kernel_rfl))
 f241:=Tryz.func313.trans (congrArg some (by kernel_rfl))
 f276:=Tryz.func345.trans (congrArg some (by kernel_rfl))
 f277:=Tryz.func346.trans (congrArg some (by kernel_rfl))
 t0:=Tryz.underlying0
 a0:=Tryz.isAgg0
 z0:=Tryz.sizeOf0
 v0:=Tryz.zeroValue0
 t3:=Tryz.underlying3
 a3:=Tryz.isAgg3
 z3:=Tryz.sizeOf3
 v3:=Tryz.zeroValue3
 t4:=Tryz.underlying4
 a4:=Tryz.isAgg4
 z4:=Tryz.sizeOf4
 v4:=Tryz.zeroValue4
 t9:=Tryz.underlying9
 a9:=Tryz.isAgg9
 z9:=Tryz.sizeOf9
 v9:=Tryz.zeroValue9
 t20:=Tryz.underlying20
 a20:=Tryz.isAgg20
 z20:=Tryz.sizeOf20
 v20:=Tryz.zeroValue20
 t31:=Tryz.underlying173
 a31:=Tryz.isAgg173
 z31:=Tryz.sizeOf173
 v31:=Tryz.zeroValue173
 t37:=Tryz.underlying51
 a37:=Tryz.isAgg51
 z37:=Tryz.sizeOf51
 v37:=Tryz.zeroValue51
 t70:=Tryz.underlying385
 a70:=Tryz.isAgg385
 z70:=Tryz.sizeOf385
 v70:=Tryz.zeroValue385
 t72:=Tryz.underlying387
 a72:=Tryz.isAgg387
 z72:=Tryz.sizeOf387
 v72:=Tryz.zeroValue387
 t75:=Tryz.underlying328
 a75:=Tryz.isAgg328
 z75:=Tryz.sizeOf328
 v75:=Tryz.zeroValue328
 t76:=Tryz.underlying329
 a76:=Tryz.isAgg329
 z76:=Tryz.sizeOf329
 v76:=Tryz.zeroValue329
 t127:=Tryz.underlying422
 a127:=Tryz.isAgg422
 z127:=Tryz.sizeOf422
 v127:=Tryz.zeroValue422
 t164:=Tryz.underlying448
 a164:=Tryz.isAgg448
 z164:=Tryz.sizeOf448
 v164:=Tryz.zeroValue448 }
theorem Tryz.Builder_Extra_156:Builder.Extra Tryz.prog Tryz.lays156_ren:={
 sizeBuilder:=by kernel_rfl
 liesBuilder:=by kernel_rfl
 t5:=Tryz.underlying5
 a5:=Tryz.isAgg5
 z5:=Tryz.sizeOf5
 v5:=Tryz.zeroValue5
 infoByte:=by kernel_rfl
 cellsByte:=by kernel_rfl
 sizeByte:=by kernel_rfl
 neB5:=by decide }
open Go.RowKit in
theorem Tryz.strings_Join_none(a:Option Addr)(c:Nat)(sep:ByteArray)(w:World) :
  Calls Tryz.prog 208 #[.slice a 0 c,.string sep] w λe w'=>e=.returned (.string ⟨#[]⟩)/\w'=w:=Any.strings_Join_none Tryz.lays156 Tryz.Builder_Extra_156 a c sep w
open Go.RowKit in
theorem Tryz.strings_Join(bk o c:Nat)(xs:List ByteArray)(sep:ByteArray)(w:World)(hcells:∀(j:Nat) x,xs[j]? = some x->w.cell? ⟨bk,o+j,none⟩=some (.string x))(hbk:bk<w.heap.size)(hN:xs.length<=140737488355328)(hcap:xs.length<=c)(hlen:(Lib.join (xs.map (·.data.toList)) sep.data.toList).length<=140737488355328) :
  Calls Tryz.prog 208 #[.slice (some ⟨bk,o,none⟩) xs.length c,.string sep] w λe w'=>e=.returned (.string ⟨(Lib.join (xs.map (·.data.toList)) sep.data.toList).toArray⟩)/\Below w.heap.size w w':=Any.strings_Join Tryz.lays156 Tryz.Builder_Extra_156 bk o c xs sep w hcells hbk hN hcap hlen
def Tryz.lays318_ren:Go.Shelf.Ren:=⟨λ| 318=>381 | n=>n,λ| 3=>3 | 4=>4 | n=>n,λ| n=>n⟩
def Tryz.laysM246_ren:Go.Shelf.Ren:=⟨λ| 246=>314 | 283=>347 | 284=>348 | 285=>349 | 286=>350 | 129=>310 | 317=>380 | 318=>381 | 319=>382 | 320=>383 | 337=>397 | 338=>398 | n=>n,λ| 2=>2 | 3=>3 | 9=>9 | 4=>4 | 171=>451 | 0=>0 | 53=>421 | 37=>51 | 5=>5 | 173=>453 | 212=>480 | 51=>237 | 20=>20 | 213=>481 | 46=>235 | 232=>500 | 233=>501 | n=>n,λ| 17=>5 | 18=>8 | 19=>9 | n=>n⟩
def Tryz.laysM243_ren:Go.Shelf.Ren:=⟨λ| 243=>271 | 246=>314 | 283=>347 | 284=>348 | 285=>349 | 286=>350 | 129=>310 | 317=>380 | 318=>381 | 319=>382 | 320=>383 | 337=>397 | 338=>398 | n=>n,λ| 3=>3 | 9=>9 | 2=>2 | 4=>4 | 171=>451 | 0=>0 | 53=>421 | 37=>51 | 5=>5 | 173=>453 | 212=>480 | 51=>237 | 20=>20 | 213=>481 | 46=>235 | 232=>500 | 233=>501 | n=>n,λ| 17=>5 | 18=>8 | 19=>9 | n=>n⟩
def Tryz.laysM171_ren:Go.Shelf.Ren:=⟨λ| 171=>210 | 243=>271 | 246=>314 | 283=>347 | 284=>348 | 285=>349 | 286=>350 | 129=>310 | 317=>380 | 318=>381 | 319=>382 | 320=>383 | 337=>397 | 338=>398 | n=>n,λ| 3=>3 | 9=>9 | 2=>2 | 4=>4 | 171=>451 | 0=>0 | 53=>421 | 37=>51 | 5=>5 | 173=>453 | 212=>480 | 51=>237 | 20=>20 | 213=>481 | 46=>235 | 232=>500 | 233=>501 | n=>n,λ| 17=>5 | 18=>8 | 19=>9 | n=>n⟩
theorem Tryz.laysM171:Go.Proofs.LaysM.n171 Tryz.prog Tryz.laysM171_ren:={
 mixed:=by kernel_rfl
 f129:=Tryz.func310.trans (congrArg some (by kernel_rfl))
 f171:=Tryz.func210.trans (congrArg some (by kernel_rfl))
 f243:=Tryz.func271.trans (congrArg some (by kernel_rfl))
 f246:=Tryz.func314.trans (congrArg some (by kernel_rfl))
 f283:=Tryz.func347.trans (congrArg some (by kernel_rfl))
 f284:=Tryz.func348.trans (congrArg some (by kernel_rfl))
 f285:=Tryz.func349.trans (congrArg some (by kernel_rfl))
 f286:=Tryz.func350.trans (congrArg some (by kernel_rfl))
 f317:=Tryz.func380.trans (congrArg some (by kernel_rfl))
 f318:=Tryz.func381.trans (congrArg some (by kernel_rfl))
 f319:=Tryz.func382.trans (congrArg some (by kernel_rfl))
 f320:=Tryz.func383.trans (congrArg some (by kernel_rfl))
 f337:=Tryz.func397.trans (congrArg some (by kernel_rfl))
 f338:=Tryz.func398.trans (congrArg some (by kernel_rfl))
 t0:=Tryz.underlying0
 a0:=Tryz.isAgg0
 z0:=Tryz.sizeOf0
 v0:=Tryz.zeroValue0
 t2:=Tryz.underlying2
 a2:=Tryz.isAgg2
 z2:=Tryz.sizeOf2
 v2:=Tryz.zeroValue2
 t3:=Tryz.underlying3
 a3:=Tryz.isAgg3
 z3:=Tryz.sizeOf3
 v3:=Tryz.zeroValue3
 t4:=Tryz.underlying4
 a4:=Tryz.isAgg4
 z4:=Tryz.sizeOf4
 v4:=Tryz.zeroValue4
 t5:=Tryz.underlying5
 a5:=Tryz.isAgg5
 z5:=Tryz.sizeOf5
 v5:=Tryz.zeroValue5
 t9:=Tryz.underlying9
 a9:=Tryz.isAgg9
 z9:=Tryz.sizeOf9
 v9:=Tryz.zeroValue9
 t20:=Tryz.underlying20
 a20:=Tryz.isAgg20
 z20:=Tryz.sizeOf20
 v20:=Tryz.zeroValue20
 t37:=Tryz.underlying51
 a37:=Tryz.isAgg51
 z37:=Tryz.sizeOf51
 v37:=Tryz.zeroValue51
 t46:=Tryz.underlying235
 a46:=Tryz.isAgg235
 z46:=Tryz.sizeOf235
 v46:=Tryz.zeroValue235
 t51:=Tryz.underlying237
 a51:=Tryz.isAgg237
 z51:=Tryz.sizeOf237
 v51:=Tryz.zeroValue237
 t53:=Tryz.underlying421
 a53:=Tryz.isAgg421
 z53:=Tryz.sizeOf421
 v53:=Tryz.zeroValue421
 t171:=Tryz.underlying451
 a171:=Tryz.isAgg451
 z171:=Tryz.sizeOf451
 v171:=Tryz.zeroValue451
 t173:=Tryz.underlying453
 a173:=Tryz.isAgg453
 z173:=Tryz.sizeOf453
 v173:=Tryz.zeroValue453
 t212:=Tryz.underlying480
 a212:=Tryz.isAgg480
 z212:=Tryz.sizeOf480
 v212:=Tryz.zeroValue480
 t213:=Tryz.underlying481
 a213:=Tryz.isAgg481
 z213:=Tryz.sizeOf481
 t232:=Tryz.underlying500
 a232:=Tryz.isAgg500
 z232:=Tryz.sizeOf500
 v232:=Tryz.zeroValue500
 t233:=Tryz.underlying501
 a233:=Tryz.isAgg501
 z233:=Tryz.sizeOf501
 v233:=Tryz.zeroValue501
 g17:=by kernel_rfl
 g18:=by kernel_rfl
 g19:=by kernel_rfl
 i0:=by kernel_rfl
 i2:=by kernel_rfl
 i3:=by kernel_rfl
 i4:=by kernel_rfl
 i5:=by kernel_rfl
 i9:=by kernel_rfl
 i20:=by kernel_rfl
 i37:=by kernel_rfl
 i46:=by kernel_rfl
 i51:=by kernel_rfl
 i53:=by kernel_rfl
 i171:=by kernel_rfl
 i173:=by kernel_rfl
 i212:=by kernel_rfl
 i232:=by kernel_rfl
 i233:=by kernel_rfl
 m17:=by kernel_rfl
 m18:=by kernel_rfl
 m19:=by kernel_rfl }
open Go.RowKit Go.Sort Go.Lib in
theorem Tryz.strconv_Itoa(n:Int)(h0:-9223372036854775808<=n)(h1:n<=9223372036854775807)(w:World)(htab:Lib.TabIs Tryz.prog w "internal/strconv.uint64pow10" .u64 Lib.pow10Tab) :
  Calls Tryz.prog 210 #[.int .i64 n] w λe w'=>e=.returned (.string ⟨(Lib.itoa n).toArray⟩)/\∃k os,w'=grow (w.drewN k) os:=Any.strconv_Itoa Tryz.laysM171 n h0 h1 w htab
def Tryz.laysNm215_ren:Go.Shelf.Ren:=⟨λ| 15=>243 | n=>n,λ| 22=>25 | 3=>3 | 4=>4 | n=>n,λ| n=>n⟩
theorem Tryz.laysNm215:Go.Proofs.Lays2.n15 Tryz.prog Tryz.laysNm215_ren:={
 mixed:=by kernel_rfl
 f15:=Tryz.func243.trans (congrArg some (by kernel_rfl))
 t3:=Tryz.underlying3
 a3:=Tryz.isAgg3
 z3:=Tryz.sizeOf3
 v3:=Tryz.zeroValue3
 t4:=Tryz.underlying4
 a4:=Tryz.isAgg4
 z4:=Tryz.sizeOf4
 v4:=Tryz.zeroValue4
 t22:=Tryz.underlying25
 a22:=Tryz.isAgg25
 z22:=Tryz.sizeOf25
 v22:=Tryz.zeroValue25
 i3:=by kernel_rfl }
open Go.RowKit Go.Lib in
theorem Tryz.slices_Clone_int(b off n c:Nat)(zs:List Int)(w:World)(hz:n<=zs.length)(hbig:n * 8<=140737488355328)(hc:∀j,j<zs.length->w.cell? ⟨b,off+j,none⟩=some (.int .i64 (zs.getD j 0))) :
  Calls Tryz.prog 243 #[.slice (some ⟨b,off,none⟩) n c] w λe w'=>∃v',e=.returned v'/\w'.ownsRow w.heap.size 3 1 v' n ((zs.take n).map (Value.int .i64))/\v'≠.slice none 0 0/\Below w.heap.size w w':=Any.slices_Clone_int Tryz.laysNm215 b off n c zs w hz hbig hc
open Go.RowKit Go.Lib in
theorem Tryz.slices_Clone_int_nil(n c:Nat)(w:World) :
  Calls Tryz.prog 243 #[.slice none n c] w λe w'=>e=.returned (.slice none 0 0)/\w'=w:=Any.slices_Clone_int_nil Tryz.laysNm215 n c w
def Tryz.laysNm237_ren:Go.Shelf.Ren:=⟨λ| 37=>311 | n=>n,λ| 3=>3 | 4=>4 | n=>n,λ| n=>n⟩
theorem Tryz.laysNm237:Go.Proofs.Lays2.n37 Tryz.prog Tryz.laysNm237_ren:={
 mixed:=by kernel_rfl
 f37:=Tryz.func311.trans (congrArg some (by kernel_rfl))
 t3:=Tryz.underlying3
 a3:=Tryz.isAgg3
 z3:=Tryz.sizeOf3
 v3:=Tryz.zeroValue3
 t4:=Tryz.underlying4
 a4:=Tryz.isAgg4
 z4:=Tryz.sizeOf4
 v4:=Tryz.zeroValue4 }
open Go.RowKit Go.Lib in
theorem Tryz.cmp_isNaN_int2(x:Int)(w:World) :
  Calls Tryz.prog 311 #[.int .i64 x] w λe w'=>e=.returned (.bool false)/\w'=w:=Any.cmp_isNaN_int2 Tryz.laysNm237 x w
end Go.Proofs
namespace Go.Am
open Go.Proofs
open Go
@[simp] theorem zB(x y:Option CR):ifO true x y=x:=rfl
@[simp] theorem za(x y:Option CR):ifO false x y=y:=rfl
theorem zG(p:Prop)[Decidable p](x y:Option CR):ifO (decide p) x y=if p then x else y:=by by_cases h:p <;> simp[h]
theorem zf(a b:Int)(x y:Option CR):ifO (bne a b) x y=if a=b then y else x:=by
 by_cases h:a=b
 ·subst h;simp[bne]
 ·have:(a == b)=false:=beq_eq_false_iff_ne.2 h;simp[bne,this,h]
theorem zw(a b:Int)(x y:Option CR):ifO (a == b) x y=if a=b then x else y:=by
 by_cases h:a=b
 ·subst h;simp
 ·have:(a == b)=false:=beq_eq_false_iff_ne.2 h;simp[this,h]
@[simp] theorem zH(x:DV)(kv:DV->Option CR)(kf:Nat->List DV->Option CR):zC (some (.val x)) kv kf=kv x:=rfl
@[simp] theorem JA(s:Nat)(xs:List DV)(kv:DV->Option CR)(kf:Nat->List DV->Option CR):zC (some (.fresh s xs)) kv kf=kf s xs:=rfl
@[simp] theorem zF(k:IntKind)(n:Int):getI (.int k n)=n:=rfl
@[simp] theorem zi(b:Bool):getB (.bool b)=b:=rfl
@[simp] theorem zX(s:ByteArray):getS (.str s)=s:=rfl
@[simp] theorem zQ(n:Nat)(xs:List DV):elems (.sl n xs)=xs:=rfl
@[simp] theorem zR(n:Nat)(xs:List DV):flds (.agg n xs)=xs:=rfl
@[simp] theorem qa(x:DV):undp (.dp x)=x:=rfl
@[simp] theorem Yk(f:FuncId)(a c:List DV):fnId (.fn f a c)=f:=rfl
@[simp] theorem QR(f:FuncId)(a c:List DV):fnA (.fn f a c)=a:=rfl
@[simp] theorem QQ(f:FuncId)(a c:List DV):fnC (.fn f a c)=c:=rfl
@[simp] theorem keys_mp(a c:List DV):keys (.mp a c)=a:=rfl
@[simp] theorem vals_mp(a c:List DV):vals (.mp a c)=c:=rfl
@[simp] theorem jI(a:List DV):tups (.tup a)=a:=rfl
@[simp] theorem zS(x:DV)(l:List DV):nth (x :: l) 0=x:=rfl
@[simp] theorem nth_succ(x:DV)(l:List DV)(n:Nat):nth (x :: l) (n+1)=nth l n:=rfl
@[simp] theorem zW(x y:DV)(l:List DV):nth (x :: y :: l) 1=y:=rfl
@[simp] theorem zb(x y z:DV)(l:List DV):nth (x :: y :: z :: l) 2=z:=rfl
@[simp] theorem ze(x y z u:DV)(l:List DV):nth (x :: y :: z :: u :: l) 3=u:=rfl
@[simp] theorem QM(x y z u v:DV)(l:List DV):nth (x :: y :: z :: u :: v :: l) 4=v:=rfl
@[simp] theorem jA(l:List DV):(DV.tup l).isTup=true:=rfl
theorem zI{α:Type}(f:α->DV)(l:List α)(i:Nat)(h:i<l.length):nth (l.map f) i=f l[i]:=by unfold nth;simp[h]
@[simp] theorem zM(f:TypeId->DV->Bool):zP f [] []=true:=rfl
@[simp] theorem zK(f:TypeId->DV->Bool)(t:TypeId)(x:DV)(ts:List TypeId)(xs:List DV):zP f (t :: ts) (x :: xs)=(f t x && zP f ts xs):=rfl
theorem wr(n:Int)(h:-9223372036854775808<=n/\n<=9223372036854775807):IntKind.i64.wrap n=n:=IntWalk.i64_in n h
theorem down{P:Nat->Prop}(n:Nat)(hn:P n)(hs:∀i,i<n->P (i+1)->P i):∀i,i<=n->P i:=by
 intro i hi;obtain⟨k,rfl⟩:∃k,n=i+k:=⟨n - i,by omega⟩
 clear hi;induction k generalizing i with
 | zero=>exact hn
 | succ k ih=>exact hs i (by omega) (ih (i+1) (by rw[show i+1+k=i+(k+1) by omega];exact hn) (λj hj=>hs j (by omega)))
theorem zT{α:Type}(l:List α)(i:Nat)(h:i<l.length):l.drop i=l[i] :: l.drop (i+1):=by simp
end Go.Am
namespace Go.Am
open Go.Proofs
open Go
@[simp] theorem h3(a1:Int):hasT EE 6 3 (.int .i64 a1)=true:=by kernel_rfl
@[simp] theorem h4(a1:Bool):hasT EE 6 4 (.bool a1)=true:=by kernel_rfl
@[simp] theorem h5(a1:Int):hasT EE 6 5 (.int .u8 a1)=true:=by kernel_rfl
@[simp] theorem h9(a1:ByteArray):hasT EE 6 9 (.str a1)=true:=by kernel_rfl
@[simp] theorem h25(a1:List DV):hasT EE 6 25 (.sl 1 a1)=true:=by kernel_rfl
@[simp] theorem h30(a1:List DV):hasT EE 6 30 (.agg 2 a1)=decide (a1.length=51):=by kernel_rfl
@[simp] theorem h45(a1:List DV):hasT EE 6 45 (.agg 3 a1)=decide (a1.length=8):=by kernel_rfl
@[simp] theorem h46(a1:Int):hasT EE 6 46 (.int .i64 a1)=true:=by kernel_rfl
@[simp] theorem h56(a1:List DV):hasT EE 6 56 (.sl 3 a1)=true:=by kernel_rfl
@[simp] theorem h58(a1:ByteArray)(a2:Int)(a3:List DV):hasT EE 6 58 (.agg 0 [(.str a1),(.int .i64 a2),(.sl 3 a3)])=true:=by kernel_rfl
@[simp] theorem h59(a1:ByteArray)(a2:List DV)(a3:List DV):hasT EE 6 59 (.agg 0 [(.str a1),(.sl 1 a2),(.sl 1 a3)])=true:=by kernel_rfl
@[simp] theorem h60(a1:List DV)(a2:Int):hasT EE 6 60 (.agg 1 [(.sl 1 a1),(.int .i64 a2)])=true:=by kernel_rfl
@[simp] theorem h62(a1:ByteArray)(a2:Int)(a3:List DV)(a4:ByteArray)(a5:List DV)(a6:List DV)(a7:List DV)(a8:Int)(a9:List DV):hasT EE 6 62 (.agg 4 [(.agg 0 [(.str a1),(.int .i64 a2),(.sl 3 a3)]),(.agg 0 [(.str a4),(.sl 1 a5),(.sl 1 a6)]),(.agg 1 [(.sl 1 a7),(.int .i64 a8)]),(.agg 3 a9)])=(decide (a9.length=8) && true):=by kernel_rfl
@[simp] theorem h73(a1:FuncId)(a2:List DV)(a3:List DV):hasT EE 6 73 (.fn a1 a2 a3)=true:=by kernel_rfl
@[simp] theorem h74(a1:FuncId)(a2:List DV)(a3:List DV):hasT EE 6 74 (.fn a1 a2 a3)=true:=by kernel_rfl
@[simp] theorem h81(a1:List DV):hasT EE 6 81 (.sl 2 a1)=true:=by kernel_rfl
@[simp] theorem h88(a1:List DV)(a2:Int)(a3:ByteArray)(a4:List DV)(a5:List DV)(a6:List DV)(a7:Int)(a8:List DV):hasT EE 6 88 (.agg 6 [(.sl 2 a1),(.int .i64 a2),(.agg 0 [(.str a3),(.sl 1 a4),(.sl 1 a5)]),(.agg 1 [(.sl 1 a6),(.int .i64 a7)]),(.agg 3 a8)])=(decide (a8.length=8) && true):=by kernel_rfl
@[simp] theorem h95(a1:List DV):hasT EE 6 95 (.sl 1 a1)=true:=by kernel_rfl
@[simp] theorem h141(a1:Int)(a2:Int):hasT EE 6 141 (.agg 1 [(.int .i64 a1),(.int .i64 a2)])=true:=by kernel_rfl
@[simp] theorem h173(a1:List DV):hasT EE 6 173 (.sl 1 a1)=true:=by kernel_rfl
@[simp] theorem h176(a1:ByteArray)(a2:Int)(a3:Int):hasT EE 6 176 (.agg 9 [(.str a1),(.agg 1 [(.int .i64 a2),(.int .i64 a3)])])=true:=by kernel_rfl
@[simp] theorem h246(a1:ByteArray)(a2:List DV)(a3:List DV)(a4:List DV)(a5:Int)(a6:List DV):hasT EE 6 246 (.agg 13 [(.agg 0 [(.str a1),(.sl 1 a2),(.sl 1 a3)]),(.agg 1 [(.sl 1 a4),(.int .i64 a5)]),(.agg 3 a6)])=(decide (a6.length=8) && true):=by kernel_rfl
@[simp] theorem h251(a1:Int)(a2:Int)(a3:Int):hasT EE 6 251 (.agg 9 [(.int .i64 a1),(.agg 1 [(.int .i64 a2),(.int .i64 a3)])])=true:=by kernel_rfl
@[simp] theorem h266(a1:List DV)(a2:Int):hasT EE 6 266 (.agg 1 [(.sl 1 a1),(.int .i64 a2)])=true:=by kernel_rfl
@[simp] theorem h268(a1:DV):hasT EE 6 268 (.dp a1)=true:=by kernel_rfl
@[simp] theorem h275(a1:FuncId)(a2:List DV)(a3:List DV):hasT EE 6 275 (.fn a1 a2 a3)=true:=by kernel_rfl
@[simp] theorem h280(a1:FuncId)(a2:List DV)(a3:List DV):hasT EE 6 280 (.fn a1 a2 a3)=true:=by kernel_rfl
@[simp] theorem h290(a1:List DV):hasT EE 6 290 (.sl 1 a1)=true:=by kernel_rfl
@[simp] theorem h300(a1:List DV):hasT EE 6 300 (.sl 2 a1)=true:=by kernel_rfl
@[simp] theorem h302(a1:Int)(a2:Int):hasT EE 6 302 (.agg 1 [(.int .i64 a1),(.int .i64 a2)])=true:=by kernel_rfl
@[simp] theorem h305(a1:FuncId)(a2:List DV)(a3:List DV):hasT EE 6 305 (.fn a1 a2 a3)=true:=by kernel_rfl
@[simp] theorem h309(a1:FuncId)(a2:List DV)(a3:List DV):hasT EE 6 309 (.fn a1 a2 a3)=true:=by kernel_rfl
@[simp] theorem h312(a1:FuncId)(a2:List DV)(a3:List DV):hasT EE 6 312 (.agg 12 [(.fn a1 a2 a3)])=true:=by kernel_rfl
@[simp] theorem h314(a1:List DV)(a2:List DV):hasT EE 6 314 (.mp a1 a2)=true:=by kernel_rfl
@[simp] theorem h349(a1:FuncId)(a2:List DV)(a3:List DV):hasT EE 6 349 (.fn a1 a2 a3)=true:=by kernel_rfl
end Go.Am
namespace Go.Am
open Go.Proofs
open Go
class OO where
 o:Orc
 ok:∀f,(orcF f).isNone=true->o f=none
noncomputable def zA[OO]:FuncId->List DV->Option CR:=QU OO.o EE XX
noncomputable def goQ[OO]:FuncId->Nat->St->Option CR:=goLo OO.o EE XX
theorem zU[OO](f:FuncId)(j:Nat)(st:St):goQ f j st=run zA (goQ f) (loopX EE XX f (fnOf EE f) (J7 EE f) j st):=goLo_eq f j st
theorem zE[OO]{f:FuncId}(ho:(orcF f).isNone=true)(hF:(EE.F f).isSome=true)(hb:((fnOf EE f).body).isSome=true)(a:List DV) :
  zA f a=run zA (goQ f) (funX EE XX f (fnOf EE f) (J7 EE f) a):=callLo_eq (OO.ok f ho) hF hb a
theorem callQ_orc[OO]{f:FuncId}{g:List DV->Option CR}(h:OO.o f=some g)(a:List DV):zA f a=g a:=callLo_orc h a
end Go.Am
namespace Go.Am
open Go.Proofs
open Go Go.RowKit
noncomputable abbrev PP:Program:=Tryz.prog
def QZ(P:Program)(E:Env)(f:FuncId)(ds:List DV)(r:CR):Prop :=
 Enters P f/\∀(S:Nat->Prop) (w:World) (vals:List Value),GlobOK E S w->(∀b,S b->b<w.heap.size)->vals.length=ds.length ->
  (∀i (h:i<ds.length) (h':i<vals.length),RV E.L S w ds[i] vals[i])->Calls P f vals.toArray w λe w'=>∃v,e=.returned v/\zAA E S w r v w'
open Classical in
noncomputable def orT(T:List DV->CR->Prop)(ds:List DV):Option CR:=if h:∃r,T ds r then some h.choose else none
theorem zAv{P:Program}{E:Env}{f:FuncId}{T:List DV->CR->Prop}(h:∀ds r,T ds r->QZ P E f ds r):jw P E λf' ds=>if f'=f then orT T ds else none:=by
 intro f' ds r h1;dsimp only at h1;split at h1
 ·rename_i e;subst e;unfold orT at h1;split at h1
  ·rename_i hx;injection h1 with h1
   exact h1 ▸ h ds _ hx.choose_spec
  ·cases h1
 ·cases h1
theorem orT_of{T:List DV->CR->Prop}{ds:List DV}{r:CR}(h:T ds r)(hu:∀r',T ds r'->r'=r):orT T ds=some r:=by unfold orT;rw[dif_pos ⟨r,h⟩];exact congrArg some (hu _ (Exists.choose_spec (⟨r,h⟩:∃r,T ds r)))
section
variable{L:Nat->List Nat}{S:Nat->Prop}{w:World}
theorem RD.int1{k:IntKind}{m:Int}{cs:List Value}(h:RD L S w (.int k m) cs):cs=[.int k m]:=by cases h;rfl
theorem RD.str1{s:ByteArray}{cs:List Value}(h:RD L S w (.str s) cs):cs=[.string s]:=by cases h;rfl
theorem flat1{α:Type}(g:α->Value):∀l:List α,(l.map λx=>[g x]).flatten=l.map g
 | []=>rfl
 | x :: l=>by rw[List.map_cons,List.flatten_cons,flat1 g l];rfl
theorem RD.sl1{α:Type}{e:α->DV}{g:α->Value}(he:∀x cs,RD L S w (e x) cs->cs=[g x]){l:List α}{cs:List Value}(h:RD L S w (.sl 1 (l.map e)) cs) :
  ∃a c,cs=[.slice a l.length c]/\l.length<=c/\(0<l.length->∃ad,a=some ad/\ad.spot=none/\S ad.block/\∀j x,l[j]? = some x->w.cell? (ad.add j)=some (g x)):=by
 cases h with
 | sl _ _ a n c css hn hc hl h hz hm =>
  have hn':l.length=n:=by simpa using hn
  subst hn';refine⟨a,c,rfl,hc,λh0=>?_⟩
  obtain⟨ad,e1,e2,e3,e4⟩:=hm h0;refine⟨ad,e1,e2,e3,λj x hx=>e4 j _ ?_⟩
  have hcss:css=l.map λx=>[g x]:=by
   apply List.ext_getElem (by simpa using hl)
   intro i h1 h2;have:=h i (by simpa using h2) h1
   rw[List.getElem_map] at this ⊢;exact he _ _ this
  rw[hcss];rw[flat1,List.getElem?_map,hx];rfl
theorem slice_of{v:Value}{x:DV}{a:Option Addr}{n c:Nat}(h:RV L S w x v)(hx:x.isTup=false)(ha:x.isAgg=false)(e:vcs v=[.slice a n c]):v=.slice a n c:=by have:=(RV.rd hx h).2;rw[ha] at this;rw[jF this] at e;simpa using e
end
theorem Qu{E:Env}{S:Nat->Prop}{w w':World}{x:DV}{v:Value}(hlt:∀b,S b->b<w.heap.size)(hB:Below w.heap.size w w')(h:RV E.L S w' x v):zAA E S w (.val x) v w' :=
 ⟨S,hB,λ_ h=>h,λ_ h=>.inl h,λb hb=>Nat.lt_of_lt_of_le (hlt b hb) hB.size,h⟩
theorem Yr{P:Program}{w:World}{ops:Array Oper}{rest:List Oper}{o:Oper}{a:Act}{Q:Exit->Act->World->Prop}(hgd:o.guard=none)(s x:Operand)(t:TypeId)
  (ho:o.op=.call { callee:=.builtin .append,args:=#[s,x],argTypes:=#[t,t] })
  (e:TypeId) (i:TypeInfo) (z:Value) (ht:P.underlying t=some (.slice e)) (hi:P.info? e=some i) (hz:i.zero=some z)
  (ad ax:Option Addr) (cx:Nat) (hs:a.eval s=.slice ad 0 0) (hx:a.eval x=.slice ax 0 cx)
  (h:wpList P ops Q rest (a.put o.dst (.slice ad 0 0)) w):wpList P ops Q (o :: rest) a w:=by
 refine wpList_plain hgd λK hK=>?_
 have hrun:=Qa (P:=P) (w:=w) t o.type e i ht hi (ad:=ad) (news:=[]) (ux:=.slice ax 0 cx) ⟨ax,cx,rfl,Nat.zero_le _,λh=>by omega⟩ (by simp)
 unfold Oper.wp;simp[execOp,ho,resolve,invoke,builtin,hs,hx,hrun,Result.andThen];exact hK _ _ h
section
open Go.Proofs Go.Shelf
variable{P:Program}{ρ:Ren}
set_option maxHeartbeats 2000000 in
set_option maxRecDepth 100000 in
theorem clone_zero(L:Lays2.n15 P ρ)(a:Addr)(c:Nat)(w:World) :
  Calls P (ρ.f 15) #[.slice (some a) 0 c] w λe w'=>∃ad,e=.returned (.slice (some ad) 0 0)/\Below w.heap.size w w':=by
 have mixed:=L.mixed;have t3:=L.t3;have a3:=L.a3;have z3:=L.z3;have v3:=L.v3;have t4:=L.t4;have a4:=L.a4;have z4:=L.z4;have v4:=L.v4;have t22:=L.t22;have a22:=L.a22;have z22:=L.z22;have v22:=L.v22;obtain⟨i0,hi,hz0,hz1,hz2⟩:=info_parts L.i3;have q22:∀(w:World) (a:Option Addr) (n c n' c':Nat),(binOp .eql (ρ.t 22) (.slice a n c) (.slice none n' c')).run P w=.ok (.bool a.isNone) w:=λw a n c n' c'=>Lib.run_eql_slice_nil w _ _ a n c n' c' L.t22
 have u22:∀w,Sem.run P (underlying (ρ.t 22)) w=.ok (TypeDesc.slice (ρ.t 3)) w:=run_underlying t22
 go_enter L.f15,Body2.n15_ntmps ρ
 go_wp2_with (at_builtin;refine Yr rfl _ _ (ρ.t 22) rfl (ρ.t 3) i0 (.int .i64 0) t22 hi hz0 _ _ _ rfl rfl ?_)
 go_wp2;go_ret;exact⟨_,rfl,(Below.refl _ w).alloc (Nat.le_refl _) _⟩
end
end Go.Am
namespace Go.Am
open Go.Proofs
open Go Go.RowKit
open Classical
noncomputable def KT(t:St->Prop)(s:St):Option CR:=if t s then some (.val .nl) else none
noncomputable def gT(t:St->Prop):Nat->St->Option CR
 | 0,s=>KT t s
 | _+1,_=>none
theorem Le.trans{s t u:St}(h:Le [] s t)(k:Le [] t u):Le [] s u:=by
 refine⟨λi=>?_,λb=>?_⟩
 ·rcases h.tm i with ⟨h1,h2⟩ | h1
  ·refine .inl ⟨h1,?_⟩;rcases k.tm i with ⟨_,k2⟩ | k1
   ·exact k2
   ·rw[<-k1];exact h2
  ·rcases k.tm i with ⟨k1,k2⟩ | k1
   ·exact .inl ⟨h1.trans k1,k2⟩
   ·exact .inr (h1.trans k1)
 ·rcases h.hp b with ⟨h1,h2,h3⟩ | h1
  ·refine .inl ⟨h1,?_,h3⟩;rcases k.hp b with ⟨_,k2,_⟩ | k1
   ·exact k2
   ·rw[<-k1];exact h2
  ·rcases k.hp b with ⟨k1,k2,k3⟩ | k1
   ·exact .inl ⟨h1.trans k1,k2,k3⟩
   ·exact .inr (h1.trans k1)
theorem KT_of{t:St->Prop}{s:St}{r:CR}(h:KT t s=some r):t s:=by
 unfold KT at h;split at h
 ·assumption
 ·cases h
theorem KT_pos{t:St->Prop}{s:St}(h:t s):KT t s=some (.val .nl):=if_pos h
section
variable[OO]
theorem pc_exec{f:FuncId}{c:Code}{st t:St}{M:Nat}(hM:1<=M)(hn:z7 c=0)(h:run zA (gT (Le [] t)) (pcX f c st)=some (.val .nl)) :
  exec EE M (jt EE zA) c st (KLe t)=some (.val .nl):=by
 let Kx:Ex->St->Tr:=λe st=>match e with | .normal=>.goto 0 st | _=>.fail
 let head:Nat->St->Tr:=λj st=>match j with | 0=>(if Le [] t st then .ret (.val .nl) else .fail) | j+1=>JZ EE XX (XX.fx f) (j+1) c 0 0 Kx st
 refine execX_run (E:=EE) (X:=XX) (F:=XX.fx f) (call:=zA) (head:=head) (M:=M) (r:=.val .nl) c 1 hM 0 0 (by omega) Kx (KLe t) (λj hj st=>?_) (λp hp e st h=>?_) (λe s s' h1 h2=>?_) 1 (Nat.le_refl 1) st ?_
 ·rcases hj with h | h
  ·omega
  ·obtain⟨k,rfl⟩:∃k,j=k+1:=⟨j - 1,by omega⟩
   rfl
 ·cases e with
  | normal =>
   have h1:goX zA head p 0 st=some (.val .nl):=h;cases p with
   | zero=>simp[goX] at h1
   | succ p =>
    have h2:run zA (goX zA head p) (if Le [] t st then .ret (.val .nl) else .fail)=some (.val .nl):=h1
    unfold KLe;split at h2
    ·rename_i hl;exact if_pos ⟨rfl,hl⟩
    ·simp[run] at h2
  | _=>simp[Kx,run] at h
 ·obtain⟨rfl,hl⟩:=zBE h2;exact if_pos ⟨rfl,hl.trans h1⟩
 ·refine YF (λ_ _ _ h=>h) (λj s r hj=>?_) _ h
  cases j with
  | succ j=>cases hj
  | zero =>
   have hj1:KT (Le [] t) s=some r:=hj;have hl:=KT_of hj1;rw[KT_pos hl] at hj1;injection hj1 with hj1
   subst hj1;show run zA (goX zA head 0) (if Le [] t s then .ret (.val .nl) else .fail)=_
   rw[if_pos hl];rfl
end
section
variable{P:Program}{E:Env}{call:FuncId->List DV->Option CR}{base:Nat}{S:Nat->Prop}{φ:Nat->Option Nat}{a:Act}{w:World}
theorem entry_rel{fn:Func}{ds:List DV}{vals:List Value}(hg:GlobOK E S w)(hlt:∀b,S b->b<w.heap.size)(hlen:vals.length=ds.length)(hle:ds.length<=fn.ntmps)
  (hrv:∀i (h:i<ds.length) (h':i<vals.length),RV E.L S w ds[i] vals[i]) :
  Rel E w.heap.size S (λ_=>none) (entry fn ds) { tmps:=vals.toArray++Array.replicate (fn.ntmps - vals.toArray.size) undef,defers:=[] } w:=by
 refine⟨hg,λt v hv=>entry_tm hlen hrv hle t v hv,λb ob hb=>?_,λb b' ob ob' cb h1=>?_,hlt,Nat.le_refl _,rfl⟩
 ·unfold slot at hb;simp only[entry,List.getElem?_replicate] at hb;split at hb
  ·rename_i hx;split at hx <;> simp at hx
  ·cases hb
 ·unfold slot at h1;simp only[entry,List.getElem?_replicate] at h1;split at h1
  ·rename_i hx;split at hx <;> simp at hx
  ·cases h1
theorem exec_piece(hD:DOK P E)(hm:P.follows .mixedOrders=true)(hc:jw P E call){n:Nat}{c:Code}{st t:St}{Q:Exit->Act->World->Prop}(h:exec E n call c st (KLe t)=some (.val .nl))(hR:Rel E base S φ st a w)
  (hk:∀S' φ' a' w',Rel E base S' φ' t a' w'->Grow base S S' w w'->Q .normal a' w'):c.wp P Q a w :=
 J2 hD hm hc c h hR λex st' S' φ' a' w' k1 k2 k3=>by obtain⟨rfl,hl⟩:=zBE k1;exact hk S' φ' a' w' (k2.le hl) k3
theorem exec_pre3(hD:DOK P E)(hm:P.follows .mixedOrders=true)(hc:jw P E call){n:Nat}{c1 c2 c3 rng tail:Code}{st t:St}{Q:Exit->Act->World->Prop}(h:exec E n call (.seq c1 (.seq c2 c3)) st (KLe t)=some (.val .nl))(hR:Rel E base S φ st a w)
  (hk:∀S' φ' a' w',Rel E base S' φ' t a' w'->Grow base S S' w w'->rng.wp P (Exit.then (tail.wp P Q) Q) a' w'):(Code.seq c1 (.seq c2 (.seq (.seq c3 rng) tail))).wp P Q a w:=by
 refine wp_seq (J2 hD hm hc c1 (K:=qm (λst'=>exec E n call (.seq c2 c3) st' (KLe t)) (KLe t)) h hR λex st1 S1 φ1 a1 w1 k1 k2 k3=>?_)
 cases ex with
 | exit id=>exact absurd (zBE k1).1 (by simp)
 | ret=>exact absurd (zBE k1).1 (by simp)
 | normal =>
  refine wp_seq (J2 hD hm hc c2 (K:=qm (λst'=>exec E n call c3 st' (KLe t)) (KLe t)) k1 k2 λex st2 S2 φ2 a2 w2 j1 j2 j3=>?_)
  cases ex with
  | exit id=>exact absurd (zBE j1).1 (by simp)
  | ret=>exact absurd (zBE j1).1 (by simp)
  | normal =>
   refine wp_seq (wp_seq (exec_piece hD hm hc j1 j2 λS' φ' a' w' i1 i2=>?_))
   exact hk S' φ' a' w' i1 ((k3.trans j3).trans i2)
theorem tail_wp{fn:Func}{i ty t1 t2 p:Nat}{s1 s2:String}{af1 af2:Array Edge}{w0:World}{S0:Nat->Prop}{tm:List AV}{hp:List (Option OB)}{Dd:Nat}{x:AV}{r:CR}{fresh:Bool}
  (hD:DOK P E) (hR:Rel E w0.heap.size S φ ⟨tm,hp⟩ a w) (hG:Grow w0.heap.size S0 S w0 w) (hdf:w.heap[Dd]? = some (.deferred (some []))) (hnS:¬S Dd) (hb:w0.heap.size<=Dd)
  {v:AV} (htm:tm[p]? = some v) (hl:YQ E ty hp v=some { v:=x }) (hfin:fin E fresh fn ⟨putT (putT tm (some t1) x) (some t2) x,hp⟩=some r) (h1:t1<tm.length) :
  (Code.seq (.region i #[{ dst:=some t1,op:=.load ty (.tmp p),type:=ty,pos:=s1,after:=af1,guard:=none },{ dst:=some t2,op:=.assign (.tmp t1),type:=ty,pos:=s2,after:=af2,guard:=none }] false) .ret).wp P
   (bodyPostM Fence.wide 0 P fn λe w'=>∃v,e=.returned v/\zAA E S0 w0 r v w') { a with defers:={ target:=.collected Dd,args:=#[] } :: a.defers } w:=by
 obtain⟨u,hu,hru⟩:=hR.tm p v htm;obtain⟨x',ur,he,hrun,hrx⟩:=qL hD hR hru hl;have he':x=x':=by simpa using congrArg Eff.v he
 subst he';have hev:a.eval (.tmp p)=u:=by simp only[Act.eval,Array.getD_eq_getD_getElem?,hu,Option.getD_some]
 let b:Act:={ a with defers:={ target:=.collected Dd,args:=#[] } :: a.defers }
 have hlen:∃u1,a.tmps[t1]? = some u1:=by obtain⟨v1,hv1⟩:∃v1,tm[t1]? = some v1:=⟨_,List.getElem?_eq_getElem h1⟩;obtain⟨u1,hu1,_⟩:=hR.tm t1 v1 hv1;exact⟨u1,hu1⟩
 obtain⟨u1,hu1⟩:=hlen;have hlt1:t1<a.tmps.size:=(Array.getElem?_eq_some_iff.1 hu1).1;have hput:(b.put (some t1) ur).eval (.tmp t1)=ur:=by simp only[Act.eval,Act.put,b,Array.getD_eq_getD_getElem?,Array.getElem?_setIfInBounds_self_of_lt hlt1,Option.getD_some]
 have hlast:bodyPostM Fence.wide 0 P fn (λe w'=>∃v,e=.returned v/\zAA E S0 w0 r v w') .ret ((b.put (some t1) ur).put (some t2) ur) w:=by
  have hR2:=(hR.put (some t1) hrx).put (some t2) hrx;have hodd:Odd (.deferred (some [])):=odd_def _;have hR3:=hR2.turn hdf hodd hnS (.deferred none);have hG3:Grow w0.heap.size S0 S w0 (w.putObj Dd (.deferred none)):=⟨QA hG.below hR.base hb _,hG.sub,hG.new,λk hk=>by
   rw[World.putObj_heap_other (by rintro rfl;exact hnS (hG.sub _ hk))]
   exact hG.kept k hk⟩
  obtain⟨hd,v,hv1,hv2⟩:=Jt hD hR3 hG3 hfin;show LeavesInM Fence.wide 0 P fn _ _ ({ target:=.collected Dd,args:=#[] } :: a.defers) .returning w;rw[hR.dfr];exact⟨by simp,.inl ⟨Dd,_,rfl,run_takeDeferred hdf,v,hv1,v,rfl,hv2⟩⟩
 refine wp_seq (wp_region ?_);simp only[List.size_toArray,List.length_cons,List.length_nil,Nat.zero_add,List.range_succ,List.range_zero,List.nil_append,List.cons_append,wpOps,List.getElem?_toArray,List.getElem?_cons_zero,List.getElem?_cons_succ,Region.wanted,if_true];refine .inl ?_;have e1:b.eval (.tmp p)=u:=hev;unfold Oper.wp;simp only[execOp];rw[show({ a with defers:={ target:=.collected Dd,args:=#[] } :: a.defers }:Act)=b from rfl,e1]
 simp only[Sem.run_bind,hrun,Result.andThen_ok,Sem.run_pure,Oper.upon];refine .inl ?_;rw[hput];exact wp_ret hlast
end
end Go.Am
namespace Go.Am
open Go.Proofs
open Go Go.RowKit
def rowV(n b:Nat):Value:=.slice (some ⟨b,0,none⟩) n n
def zrow(n:Nat):Array Value:=madeCells #[.int .i64 0] n
structure RowsI(W wr:World)(wk wd:Array Value)(pa:Option Addr)(n c k:Nat):Prop where
 below:Below W.heap.size W wr
 h0:wr.heap[W.heap.size]? = some (.cells wk 59 (0,0))
 h1:wr.heap[W.heap.size+1]? = some (.cells #[.slice pa n c] 81 (0,0))
 h2:wr.heap[W.heap.size+1+1]? = some (.cells wd 251 (0,0))
 out:∃(v:Value) (rs:List Nat),wr.heap[W.heap.size+1+1+1]? = some (.cells #[v] 95 (0,0))/\wr.ownsRow (W.heap.size+1+1+1+1) 25 1 v k (rs.map (rowV n))/\rs.length=k/\rs.Nodup /\
  ∀b∈rs,W.heap.size+1+1+1+1<=b/\wr.heap[b]? = some (.cells (zrow n) 3 (0,0))/\v.ownBlock≠some b
theorem step_append_own{P:Program}{ops:Array Oper}{o:Oper}{a:Act}{w:World}{K:Act->World->Prop}{Q:Exit->Act->World->Prop}{E:Prop}
  (hg:o.guard=none) (s x:Operand) (t:TypeId) (hop:o.op=Op.call { callee:=Callee.builtin Builtin.append,args:=#[s,x],argTypes:=#[t,t] })
  (base:Nat) (e:TypeId) (i:TypeInfo) (z:Value) (size bytes:Nat) (ht:P.underlying t=some (.slice e)) (hi:P.info? e=some i) (hz:i.zero=some z)
  (hsize:i.size=size) (hby:i.bytes=bytes) (hzs:z.cells.size=size) (hsz:0<size)
  (v:Value) (n:Nat) (xs:List Value) (hs:a.eval s=v) (hown:w.ownsRow base e size v n xs)
  (ad:Addr) (m c:Nat) (news:List Value) (hx:a.eval x=.slice (some ad) m c) (hl:news.length=m * size) (hnews:∀j u,news[j]? = some u->w.cell? (ad.add j)=some u) (h1:∀u∈news,u.oneCell'=true)
  (h63:n+m<=maxLen) (hbytes:(n+m) * bytes<=140737488355328) (hbase:base<=w.heap.size)
  (hK:∀v' w',w'.ownsRow base e size v' (n+m) (xs++news)->w.grownBy w' v.ownBlock->K (a.put o.dst v') w') :
  if Region.wanted o (yielded ops a.tmps)=true then Oper.wp P o a w K Q else E:=by
 rw[if_pos (by simp[Region.wanted,hg])]
 exact wp_append_own w s x t hop base e i z size bytes ht hi hz hsize hby hzs hsz v n xs hs hown ad m c news hx hl hnews h1 h63 hbytes hbase λv' w' h1 h2 _=>hK v' w' h1 h2
theorem rows_start(W:World)(wk wd:Array Value)(pa:Option Addr)(n c:Nat) :
  RowsI W ((((W.alloc (.cells wk 59)).alloc (.cells #[.slice pa n c] 81)).alloc (.cells wd 251)).alloc (.cells #[.slice none 0 0] 95)) wk wd pa n c 0:=by
 have h0:(W.alloc (.cells wk 59)).heap[W.heap.size]? = some (.cells wk 59 (0,0)):=World.alloc_heap_new _ _;have h1:((W.alloc (.cells wk 59)).alloc (.cells #[.slice pa n c] 81)).heap[W.heap.size+1]? = some (.cells #[.slice pa n c] 81 (0,0)):=by have:=World.alloc_heap_new (W.alloc (.cells wk 59)) (.cells #[.slice pa n c] 81);rwa [World.size_alloc] at this
 have h2:(((W.alloc (.cells wk 59)).alloc (.cells #[.slice pa n c] 81)).alloc (.cells wd 251)).heap[W.heap.size+1+1]? = some (.cells wd 251 (0,0)):=by have:=World.alloc_heap_new ((W.alloc (.cells wk 59)).alloc (.cells #[.slice pa n c] 81)) (.cells wd 251);rwa [World.size_alloc,World.size_alloc] at this
 have h3:((((W.alloc (.cells wk 59)).alloc (.cells #[.slice pa n c] 81)).alloc (.cells wd 251)).alloc (.cells #[.slice none 0 0] 95)).heap[W.heap.size+1+1+1]? = some (.cells #[.slice none 0 0] 95 (0,0)):=by have:=World.alloc_heap_new (((W.alloc (.cells wk 59)).alloc (.cells #[.slice pa n c] 81)).alloc (.cells wd 251)) (.cells #[.slice none 0 0] 95);rwa [World.size_alloc,World.size_alloc,World.size_alloc] at this
 refine⟨((((Below.refl _ W).alloc (Nat.le_refl _) _).alloc (by simp <;> omega) _).alloc (by simp <;> omega) _).alloc (by simp <;> omega) _,?_,?_,?_,.slice none 0 0,[],h3,World.ownsRow_nil _ _ _ _,rfl,List.nodup_nil,λb hb=>by simp at hb⟩
 ·rw[Below.heap_alloc _ _ _ (by simp <;> omega),Below.heap_alloc _ _ _ (by simp <;> omega),Below.heap_alloc _ _ _ (by simp <;> omega)];exact h0
 ·rw[Below.heap_alloc _ _ _ (by simp <;> omega),Below.heap_alloc _ _ _ (by simp <;> omega)];exact h1
 ·rw[Below.heap_alloc _ _ _ (by simp <;> omega)];exact h2
theorem own_up{w:World}{base e size n:Nat}{v:Value}{xs:List Value}(h:w.ownsRow base e size v n xs)(o1 o2:Obj):((w.alloc o1).alloc o2).drew.ownsRow base e size v n xs:=by refine⟨h.1,h.2.imp id ?_⟩;rintro⟨g,cap,cur,e1,e2,e3,e4⟩;refine⟨g,cap,cur,e1,e2,?_,e4⟩;have hlt:g<w.heap.size:=(Array.getElem?_eq_some_iff.1 e3).1;exact(Below.heap_alloc _ _ _ (by simp;omega)).trans ((Below.heap_alloc _ _ _ hlt).trans e3)
theorem news_up(w:World)(o1:Obj)(n b t:Nat):∀(j:Nat) (u:Value),[rowV n b][j]? = some u->((w.alloc o1).alloc (.cells #[.slice (some ⟨b,0,none⟩) n n] t)).drew.cell? ((⟨w.heap.size+1,0,none⟩:Addr).add j)=some u:=by
 intro j u hj;cases j with
 | zero =>
  have:=World.alloc_heap_new (w.alloc o1) (.cells #[.slice (some ⟨b,0,none⟩) n n] t);rw[World.size_alloc] at this;rw[jo rfl];show World.cell? (World.drew _) _=_;unfold World.cell?;rw[show((w.alloc o1).alloc (.cells #[.slice (some ⟨b,0,none⟩) n n] t)).drew.heap=((w.alloc o1).alloc (.cells #[.slice (some ⟨b,0,none⟩) n n] t)).heap from rfl]
  simp only[this];exact hj
 | succ j=>simp at hj
theorem ones_row(n b:Nat):∀u∈[rowV n b],u.oneCell'=true:=by intro u hu;rw[List.mem_singleton.1 hu];rfl
theorem base_up{w:World}{b:Nat}(h:b<=w.heap.size)(o1 o2:Obj):b<=((w.alloc o1).alloc o2).drew.heap.size:=by show b<=((w.alloc o1).alloc o2).heap.size;rw[World.size_alloc,World.size_alloc];omega
theorem kept_up{wr w2:World}{o1 o2:Obj}{v:Value}(h2:(((wr.alloc o1).alloc o2).drew).grownBy w2 v.ownBlock){k:Nat}(hk:k<wr.heap.size)(hne:some k≠v.ownBlock):w2.heap[k]? = wr.heap[k]?:=by
 refine(h2.block k ?_ hne).trans ?_
 ·show k<((wr.alloc o1).alloc o2).heap.size;rw[World.size_alloc,World.size_alloc];omega
 ·exact(Below.heap_alloc _ _ _ (by simp;omega)).trans (Below.heap_alloc _ _ _ hk)
theorem own_ne{w:World}{base e size n:Nat}{v:Value}{xs:List Value}(h:w.ownsRow base e size v n xs){k:Nat}(hk:k<base):some k≠v.ownBlock:=by
 rcases h.2 with ⟨rfl,_⟩ | ⟨g,cap,cur,rfl,e2,_⟩
 ·simp[Value.ownBlock]
 ·simp only[Value.ownBlock];intro e;injection e with e
  omega
theorem own_form{w:World}{base e size k:Nat}{v:Value}{xs:List Value}(h:w.ownsRow base e size v (k+1) xs):∃g cap,v=.slice (some ⟨g,0,none⟩) (k+1) cap:=by
 rcases h.2 with ⟨_,h⟩ | ⟨g,cap,cur,e1,_⟩
 ·omega
 ·exact⟨g,cap,e1⟩
theorem cell_at{w:World}{b:Nat}{v:Value}{t:Nat}(h:w.heap[b]? = some (.cells #[v] t (0,0))):w.cell? ⟨b,0,none⟩=some v/\w.frozen? ⟨b,0,none⟩=false:=by
 constructor
 ·unfold World.cell?;simp only[h];rfl
 ·unfold World.frozen?;simp[h]
theorem rows_step{W wr w2:World}{wk wd:Array Value}{pa:Option Addr}{n c k:Nat}{v v':Value}{rs:List Nat}{O:Obj}(h:RowsI W wr wk wd pa n c k)
  (hv:wr.heap[W.heap.size+1+1+1]? = some (.cells #[v] 95 (0,0))) (hown:wr.ownsRow (W.heap.size+1+1+1+1) 25 1 v k (rs.map (rowV n))) (hl:rs.length=k) (hnd:rs.Nodup)
  (hrs:∀b∈rs,W.heap.size+1+1+1+1<=b/\wr.heap[b]? = some (.cells (zrow n) 3 (0,0))/\v.ownBlock≠some b)
  (h1:w2.ownsRow (W.heap.size+1+1+1+1) 25 1 v' (k+1) (rs.map (rowV n)++[rowV n wr.heap.size])) (h2:(((wr.alloc (.cells (zrow n) 3)).alloc O).drew).grownBy w2 v.ownBlock) :
  RowsI W (w2.setCell ⟨W.heap.size+1+1+1,0,none⟩ v') wk wd pa n c (k+1):=by
 obtain⟨g,cap,rfl⟩:=own_form h1;have hbs:W.heap.size+1+1+1+1<=wr.heap.size:=(Array.getElem?_eq_some_iff.1 hv).1;have hkeep:∀j,j<W.heap.size+1+1+1+1->w2.heap[j]? = wr.heap[j]?:=λj hj=>kept_up h2 (by omega) (own_ne hown (by omega))
 have hset:∀j,j≠W.heap.size+1+1+1->(w2.setCell ⟨W.heap.size+1+1+1,0,none⟩ (.slice (some ⟨g,0,none⟩) (k+1) cap)).heap[j]? = w2.heap[j]?:=λj hj=>Below.heap_setCell _ _ _ _ hj
 have hvb:∀b,v.ownBlock=some b->b<wr.heap.size/\∃cur,wr.heap[b]? = some (.cells cur 25 (0,0)):=by
  intro b hb;rcases hown.2 with ⟨rfl,_⟩ | ⟨g,cap,cur,rfl,e2,e3,_⟩
  ·simp[Value.ownBlock] at hb
  ·simp only[Value.ownBlock,Option.some.injEq] at hb;subst hb;exact⟨(Array.getElem?_eq_some_iff.1 e3).1,cur,e3⟩
 have hnew:w2.heap[wr.heap.size]? = some (.cells (zrow n) 3 (0,0)):=by
  refine(h2.block wr.heap.size ?_ ?_).trans ?_
  ·show wr.heap.size<((wr.alloc _).alloc _).heap.size;rw[World.size_alloc,World.size_alloc];omega
  ·intro e;have:=(hvb _ e.symm).1;omega
  ·exact(Below.heap_alloc _ _ _ (by simp)).trans (World.alloc_heap_new _ _)
 have hrows:∀b∈rs++[wr.heap.size],W.heap.size+1+1+1+1<=b/\w2.heap[b]? = some (.cells (zrow n) 3 (0,0)):=by
  intro b hb;rcases List.mem_append.1 hb with hb | hb
  ·obtain⟨b1,b2,b3⟩:=hrs b hb;have hlt:b<wr.heap.size:=(Array.getElem?_eq_some_iff.1 b2).1;exact⟨b1,(kept_up h2 hlt (λe=>b3 e.symm)).trans b2⟩
  ·rw[List.mem_singleton.1 hb];exact⟨hbs,hnew⟩
 have hcell:(w2.setCell ⟨W.heap.size+1+1+1,0,none⟩ (.slice (some ⟨g,0,none⟩) (k+1) cap)).heap[W.heap.size+1+1+1]? = some (.cells #[.slice (some ⟨g,0,none⟩) (k+1) cap] 95 (0,0)):=by
  have h0:=(hkeep _ (by omega)).trans hv
  unfold World.setCell;simp only[Array.getElem?_modify,if_true,h0];rfl
 have hg:W.heap.size+1+1+1+1<=g/\∃cur,w2.heap[g]? = some (.cells cur 25 (0,0)):=by
  rcases h1.2 with ⟨e,_⟩ | ⟨g',cap',cur,e1,e2,e3,_⟩
  ·simp at e
  ·simp only[Value.slice.injEq,Option.some.injEq,Addr.mk.injEq,and_true,true_and] at e1;obtain⟨rfl,rfl⟩:=e1;exact⟨e2,cur,e3⟩
 refine⟨?_,?_,?_,?_,.slice (some ⟨g,0,none⟩) (k+1) cap,rs++[wr.heap.size],hcell,?_,by simp[hl],?_,λb hb=>?_⟩
 ·refine Below.setCell (h.below.trans ⟨h2.os,h2.tape,h2.output,?_,λj hj=>hkeep j (by omega)⟩) (by show W.heap.size<=W.heap.size+1+1+1;omega) _
  have:=h2.size;have e:(((wr.alloc (.cells (zrow n) 3)).alloc O).drew).heap.size=wr.heap.size+1+1:=by show((wr.alloc _).alloc _).heap.size=_;rw[World.size_alloc,World.size_alloc]
  omega
 ·rw[hset _ (by omega),hkeep _ (by omega)];exact h.h0
 ·rw[hset _ (by omega),hkeep _ (by omega)];exact h.h1
 ·rw[hset _ (by omega),hkeep _ (by omega)];exact h.h2
 ·rw[List.map_append];refine⟨h1.1,h1.2.imp id ?_⟩;rintro⟨g',cap',cur,e1,e2,e3,e4⟩;exact⟨g',cap',cur,e1,e2,(hset _ (by omega)).trans e3,e4⟩
 ·rw[List.nodup_append];refine⟨hnd,by simp,λa ha b hb=>?_⟩
  rw[List.mem_singleton.1 hb];rintro rfl;have:=(Array.getElem?_eq_some_iff.1 (hrs _ ha).2.1).1;omega
 ·obtain⟨b1,b2⟩:=hrows b hb;refine⟨b1,(hset _ (by omega)).trans b2,?_⟩
  simp only[Value.ownBlock,ne_eq,Option.some.injEq];rintro rfl;obtain⟨_,cur,hc⟩:=hg;rw[b2] at hc;injection hc with hc
  injection hc with _ hc _;exact absurd hc (by decide)
structure Facts(W:World)(wk wd:Array Value)(pa:Option Addr)(n c:Nat)(a:Act)(w:World):Prop where
 dfr:a.defers=[]
 size:a.tmps.size=47
 t3:a.tmps[3]? = some (.pointer (some ⟨W.heap.size,0,none⟩))
 t4:a.tmps[4]? = some (.pointer (some ⟨W.heap.size+1,0,none⟩))
 t5:a.tmps[5]? = some (.pointer (some ⟨W.heap.size+1+1,0,none⟩))
 t7:a.tmps[7]? = some (.pointer (some ⟨W.heap.size+1+1+1,0,none⟩))
 rows:RowsI W w wk wd pa n c n
def Q1(W:World)(wk wd:Array Value)(pa:Option Addr)(n c:Nat):Exit->Act->World->Prop
 | .normal,a,w=>Facts W wk wd pa n c a w
 | _,_,_=>False
noncomputable def k200r:Code:=match Tryz.f200.body with
 | some (.seq _ (.seq _ (.seq _ r)))=>r
 | _=>.skip
set_option maxRecDepth 100000 in
set_option maxHeartbeats 4000000 in
theorem rows200(wk wd:Array Value)(pa:Option Addr)(n c:Nat)(hn:n<=64)(W:World)(R:Ending->World->Prop)
  (hrest:∀a w,Facts W wk wd pa n c a w->k200r.wp Tryz.prog (bodyPostM Fence.wide 0 Tryz.prog Tryz.f200 R) a w):Calls Tryz.prog 200 #[.agg wk,.slice pa n c,.agg wd] W R:=by
 have mixed:Tryz.prog.follows .mixedOrders=true:=by kernel_rfl
 have info3:(Tryz.prog.info? 3).map (λi=>(i.zero,i.size,i.bytes))=some (some (.int .i64 0),1,8):=by kernel_rfl
 have info25:(Tryz.prog.info? 25).map (λi=>(i.zero,i.size,i.bytes))=some (some (.slice none 0 0),1,24):=by kernel_rfl
 obtain⟨i25,hi25,hz25,hs25,hb25⟩:=info_parts info25;have hmk25:=run_make_row' (P:=Tryz.prog) 25 3 (.int .i64 0) 8 Tryz.underlying25 info3 rfl .i64 .i64 n (by omega) (by omega)
 refine(callsIn_wide (n:=0)).1 (callsIn_of_wp_marks Tryz.func200 rfl trivial (wpIn_wide.2 ?_));simp only[Tryz.ntmps200,List.size_toArray,List.length_cons,List.length_nil,Nat.reduceAdd,Nat.reduceSub,Array.replicate_succ,Array.replicate_zero,List.push_toArray,List.append_toArray,List.nil_append,List.cons_append];go_wp2;rename_i K ha;refine Code.wp_mono (Q:=Exit.inBlock 0 (Q1 W wk wd pa n c)) (λe a w h=>?_) ?_
 ·cases e with
  | normal=>exact ha a w (hrest a w h)
  | exit i =>
   simp only[Exit.inBlock] at h ⊢;split at h
   ·rename_i e0;rw[if_pos e0];exact ha a w (hrest a w h)
   ·exact h.elim
  | _=>exact False.elim h
 clear ha K hrest
 go_loopw [12] (λp wr=>∃k:Nat,p=.int .i64 k/\k<=n/\RowsI W wr wk wd pa n c k) (λp _=>n - qo p)
 case atStart=>exact⟨0,rfl,Nat.zero_le _,rows_start W wk wd pa n c⟩
 case round =>
  obtain⟨k,rfl,hk,hI⟩:=hrel;obtain⟨v,rs,hv,hown,hl,hnd,hrs⟩:=hI.out;have hc4:wr.cell? ⟨W.heap.size+1,0,none⟩=some (.slice pa n c):=by unfold World.cell?;simp only[hI.h1];rfl
  have hc7:wr.cell? ⟨W.heap.size+1+1+1,0,none⟩=some v:=by unfold World.cell?;simp only[hv];rfl
  have hf7:wr.frozen? ⟨W.heap.size+1+1+1,0,none⟩=false:=by unfold World.frozen?;simp[hv]
  by_cases hkn:k<n
  ·have h63:k+1<=maxLen:=by unfold maxLen;omega
   have h24:(k+1) * 24<=140737488355328:=by omega
   have hbs:W.heap.size+1+1+1+1<=wr.heap.size:=(Array.getElem?_eq_some_iff.1 hv).1;have hc7a:∀o,(wr.alloc o).cell? ⟨W.heap.size+1+1+1,0,none⟩=some v:=λo=>(World.cell?_of_block (a:=⟨W.heap.size+1+1+1,0,none⟩) (Below.heap_alloc _ _ _ (by show W.heap.size+1+1+1<_;omega))).trans hc7
   have hc7b:∀o o',((wr.alloc o).alloc o').cell? ⟨W.heap.size+1+1+1,0,none⟩=some v:=λo o'=>(World.cell?_of_block (a:=⟨W.heap.size+1+1+1,0,none⟩) (Below.heap_alloc _ _ _ (by show W.heap.size+1+1+1<_;rw[World.size_alloc];omega))).trans (hc7a o)
   go_wp2
   go_region_law (refine step_append_own rfl (.tmp 14) (.tmp 18) 95 rfl (W.heap.size+1+1+1+1) 25 i25 (.slice none 0 0) 1 24 Tryz.underlying95 hi25 hz25 hs25 hb25 rfl (by decide) v k (rs.map (rowV n)) rfl (own_up hown _ _) _ 1 1 [rowV n wr.heap.size] rfl rfl (news_up _ _ _ _ _) (ones_row _ _) h63 h24 (base_up hbs _ _) ?_;intro v' w2 hv' hw2;obtain⟨g,cap,rfl⟩:=own_form hv';obtain⟨hcA,hfA⟩:=cell_at ((kept_up hw2 (by omega) (own_ne hown (by omega))).trans hv))
   all_goals
    have hstep:=rows_step hI hv hown hl hnd hrs hv' hw2;rename_i K ha;refine ha _ _ ?_;clear hI hv hown hl hnd hrs hv' hw2 hcA hfA hc4 hc7 hf7 hc7a hc7b hmk25;go_wp2
    go_roundw
    case rel=>exact⟨k+1,by simp,by omega,hstep⟩
    case measure=>simp[qo];omega
  ·go_wp2;obtain rfl:k=n:=by omega
   exact⟨rfl,rfl,rfl,rfl,rfl,rfl,hI⟩
end Go.Am
namespace Go.Am
open Go.Proofs
open Go Go.RowKit
attribute [local go_sem] Oper.semAt_some
theorem own_up1{w:World}{base e size n:Nat}{v:Value}{xs:List Value}(h:w.ownsRow base e size v n xs)(o1:Obj):(w.alloc o1).ownsRow base e size v n xs:=by refine⟨h.1,h.2.imp id ?_⟩;rintro⟨g,cap,cur,e1,e2,e3,e4⟩;exact⟨g,cap,cur,e1,e2,(Below.heap_alloc _ _ _ (Array.getElem?_eq_some_iff.1 e3).1).trans e3,e4⟩
theorem news_up1(w:World)(x:Value)(t:Nat):∀(j:Nat) (u:Value),[x][j]? = some u->(w.alloc (.cells #[x] t)).cell? ((⟨w.heap.size,0,none⟩:Addr).add j)=some u:=by
 intro j u hj;cases j with
 | zero =>
  rw[jo rfl];unfold World.cell?;simp only[World.alloc_heap_new];exact hj
 | succ j=>simp at hj
theorem zAY{wr w2:World}{o1:Obj}{v:Value}(h2:(wr.alloc o1).grownBy w2 v.ownBlock){k:Nat}(hk:k<wr.heap.size)(hne:some k≠v.ownBlock):w2.heap[k]? = wr.heap[k]?:=by refine(h2.block k ?_ hne).trans (Below.heap_alloc _ _ _ hk);rw[World.size_alloc];omega
theorem own_nobj{w:World}{base e size n:Nat}{v:Value}{xs:List Value}(h:w.ownsRow base e size v n xs){k:Nat}(hk:∀cs t,w.heap[k]?≠some (.cells cs t (0,0))):some k≠v.ownBlock:=by
 rcases h.2 with ⟨rfl,_⟩ | ⟨g,cap,cur,rfl,e2,e3,_⟩
 ·simp[Value.ownBlock]
 ·simp only[Value.ownBlock];intro e;injection e with e
  subst e;exact hk _ _ e3
structure AppI(W:World)(l:List Int)(k:Nat)(V:World):Prop where
 le:k<=l.length
 below:Below W.heap.size W V
 out:∃v,V.heap[W.heap.size]? = some (.cells #[v] 25 (0,0))/\V.ownsRow (W.heap.size+1) 3 1 v k ((l.take k).map (Value.int .i64))
theorem own_other{V V':World}{base e size k:Nat}{v:Value}{xs:List Value}(h:V.ownsRow base e size v k xs)(hk:∀g cs t,base<=g->V.heap[g]? = some (.cells cs t (0,0))->V'.heap[g]? = V.heap[g]?):V'.ownsRow base e size v k xs:=by refine⟨h.1,h.2.imp id ?_⟩;rintro⟨g,cap,cur,e1,e2,e3,e4⟩;exact⟨g,cap,cur,e1,e2,(hk g _ _ e2 e3).trans e3,e4⟩
theorem asg1_wp{P:Program}{F:Fence}{l n:Nat}{i1:Nat}{t1 p1:Tmp}{ty:TypeId}{s1:String}{K:Act->World->Prop}{a:Act}{w:World}(h:K (a.put (some t1) (a.eval (.tmp p1))) w) :
  (Code.region i1 #[{ dst:=some t1,op:=.assign (.tmp p1),type:=ty,pos:=s1,after:=#[],guard:=none }] false).wpIn (F.inRound l) n P (Exit.then K (λ_ _ _=>False)) a w:=by
 refine wpIn_region ?_;simp only[List.size_toArray,List.length_cons,List.length_nil,Nat.zero_add,List.range_succ,List.range_zero,List.nil_append,wpOpsIn,List.getElem?_toArray,List.getElem?_cons_zero,Region.wanted,if_true,Oper.wpIn];refine⟨λf hf=>by simp[Oper.about] at hf,?_⟩
 rw[show(F.inRound l).round=some l from rfl,Oper.semAt_eq _ _ _ (λc h=>by cases h)]
 simp only[go_sem];exact h
set_option maxRecDepth 100000 in
set_option maxHeartbeats 2000000 in
theorem append_seq(gf:Nat)(lb:Array Value)(l:List Int)(hl:l.length<=100000)(W:World)(C:World->Prop)(eg:∀args w,(callFunc gf args).run Tryz.prog w=.ok (.enter gf args) w)
  (hseq:SeqR Tryz.prog gf lb (l.map encI) C) (hC:∀V,Below W.heap.size W V->C V) :
  Calls Tryz.prog 327 #[.slice none 0 0,.func (.func gf) #[] lb] W λe w'=>∃v,e=.returned v/\w'.ownsRow (W.heap.size+1) 3 1 v l.length (l.map (Value.int .i64))/\Below W.heap.size W w':=by
 have info3:(Tryz.prog.info? 3).map (λi=>(i.zero,i.size,i.bytes))=some (some (.int .i64 0),1,8):=by kernel_rfl
 obtain⟨i3,hi3,hz3,hs3,hb3⟩:=info_parts info3;refine(callsIn_wide (n:=0)).1 (callsIn_of_wp_marks Tryz.func327 rfl trivial ?_);simp only[Tryz.ntmps327,List.size_toArray,List.length_cons,List.length_nil,Nat.reduceAdd,Nat.reduceSub,Array.replicate_succ,Array.replicate_zero,List.push_toArray,List.append_toArray,List.nil_append,List.cons_append]
 gi_wp2
 rename_i K ha;have hb0:(W.alloc (.cells #[.slice none 0 0] 25)).heap.size=W.heap.size+1:=World.size_alloc _ _;refine zAH (gf:=gf) (lb:=lb) (C:=C) (xs:=l.map encI) rfl eg hseq (λx hx=>by obtain⟨p,_,rfl⟩:=List.mem_map.1 hx;rfl) (AppI W l) ?_ ?_ ?_
  (λx=>({ tmps:=((#[7]:Array Tmp).zip x).foldl (λt (p,v)=>t.setIfInBounds p v) #[.slice none 0 0,.func (.func gf) #[] lb,.pointer (some ⟨W.heap.size,0,none⟩),undef,.slice none 0 0,undef,.func (.func gf) #[] lb,undef,undef,undef,undef,undef,undef],defers:=[] }:Act).put (some 5)
   (({ tmps:=((#[7]:Array Tmp).zip x).foldl (λt (p,v)=>t.setIfInBounds p v) #[.slice none 0 0,.func (.func gf) #[] lb,.pointer (some ⟨W.heap.size,0,none⟩),undef,.slice none 0 0,undef,.func (.func gf) #[] lb,undef,undef,undef,undef,undef,undef],defers:=[] }:Act).eval (.tmp 7))) ?_ ?_ ?_
 ·intro k V r o hI hlo;rw[hb0] at hlo ⊢;obtain⟨v,h1,h2⟩:=hI.out;refine⟨hI.le,QA hI.below hI.below.size (by omega) o,v,?_,own_other h2 λg cs t hg hh=>World.putObj_heap_other ?_⟩
  ·exact(World.putObj_heap_other (by omega)).trans h1
  ·rintro rfl;rw[hlo] at hh;injection hh with hh
   cases hh
 ·intro k V hI;exact hC V hI.below
 ·intro r;refine⟨Nat.zero_le _,(((Below.refl _ W).alloc (Nat.le_refl _) _).alloc (by simp) _).alloc (by simp <;> omega) _,.slice none 0 0,?_,World.ownsRow_nil _ _ _ _⟩
  rw[Below.heap_alloc _ _ _ (by simp <;> omega),Below.heap_alloc _ _ _ (by simp)]
  exact World.alloc_heap_new _ _
 ·intro k x V K hx hK;exact asg1_wp hK
 ·intro k x V r hx hI hlo hDo;rw[hb0] at hlo hDo ⊢;rw[List.getElem?_map] at hx;have hkl:k<l.length:=by
   by_cases h:k<l.length
   ·exact h
   ·rw[List.getElem?_eq_none (by omega)] at hx;simp at hx
  rw[List.getElem?_eq_getElem hkl] at hx;simp only[Option.map_some,Option.some.injEq] at hx;subst hx;obtain⟨v,h1,h2⟩:=hI.out;obtain⟨hc1,hf1⟩:=cell_at h1;have hbs:W.heap.size+1<=V.heap.size:=(Array.getElem?_eq_some_iff.1 h1).1;have hVl:W.heap.size+1+1<V.heap.size:=(Array.getElem?_eq_some_iff.1 hlo).1;have h63:k+1<=maxLen:=by unfold maxLen;omega
  have h8:(k+1) * 8<=140737488355328:=by omega
  simp only[encI,Act.put,Act.eval,List.zip_toArray,List.zip_cons_cons,List.zip_nil_left,List.size_toArray,List.length_cons,List.length_nil,List.foldl_toArray',List.foldl_cons,List.foldl_nil]
  gi_wp2_with (gi_at_builtin;refine wpListIn_append_own _ rfl (.tmp 8) (.tmp 10) 25 rfl (W.heap.size+1) 3 i3 (.int .i64 0) 1 8 Tryz.underlying25 hi3 hz3 hs3 hb3 rfl (by decide) v k _ rfl (own_up1 h2 _) _ 1 1 [.int .i64 l[k]] rfl rfl (news_up1 _ _ _) (by intro u hu;rw[List.mem_singleton.1 hu];rfl) h63 h8 (by rw[World.size_alloc];omega) ?_;intro v' w2 hv' hw2 _;obtain⟨g,cap,rfl⟩:=own_form hv';obtain⟨hcA,hfA⟩:=cell_at ((zAY hw2 (by omega) (own_ne h2 (by omega))).trans h1))
  have hset:∀j,j≠W.heap.size->(w2.setCell ⟨W.heap.size,0,none⟩ (.slice (some ⟨g,0,none⟩) (k+1) cap)).heap[j]? = w2.heap[j]?:=λj hj=>Below.heap_setCell _ _ _ _ hj
  have hN:=(zAY hw2 (show W.heap.size<V.heap.size by omega) (own_ne h2 (by omega))).trans h1
  have hsz:V.heap.size<=w2.heap.size:=by have:=hw2.size;rw[World.size_alloc] at this;omega
  refine⟨⟨by omega,?_,.slice (some ⟨g,0,none⟩) (k+1) cap,?_,?_⟩,?_,?_⟩
  ·refine Below.setCell (hI.below.trans ⟨hw2.os,hw2.tape,hw2.output,hsz,λj hj=>zAY hw2 (by omega) (own_ne h2 (by omega))⟩) (Nat.le_refl _) _
  ·unfold World.setCell;simp only[Array.getElem?_modify,if_true,hN];rfl
  ·rw[List.take_succ,List.getElem?_eq_getElem hkl,List.map_append];exact own_other hv' λg cs t hg _=>hset _ (by omega)
  ·rw[hset _ (by omega),zAY hw2 hVl (own_nobj h2 (λcs t h=>by rw[hlo] at h;injection h with h;cases h))]
   simp
  ·rw[hset _ (by omega),zAY hw2 (by omega) (own_nobj h2 (λcs t h=>by rw[hDo] at h;injection h with h;cases h))]
   exact hDo
 ·intro V hI hDo;rw[List.length_map] at hI;rw[hb0] at hDo ⊢;refine ha _ _ ?_;clear ha;obtain⟨v,h1,h2⟩:=hI.out;have hc1:=(cell_at h1).1
  gi_wp2
  show LeavesInM Fence.wide 0 Tryz.prog Tryz.f327 _ _ [{ target:=.collected (W.heap.size+1),args:=#[] }] .returning V;refine⟨by simp,.inl ⟨_,_,rfl,run_takeDeferred hDo,v,by rw[results_tmp (fn:=Tryz.f327) (t:=4) rfl];rfl,v,rfl,own_other ?_ λg cs t hg hh=>World.putObj_heap_other ?_,QA hI.below hI.below.size (by omega) _⟩⟩
  ·rw[List.take_length] at h2;exact h2
  ·rintro rfl;rw[hDo] at hh;injection hh with hh
   cases hh
end Go.Am
namespace Go.Proofs
open Go.Shelf
def Tryz.lays189_ren:Go.Shelf.Ren:=⟨λ| 189=>286 | 125=>259 | 257=>328 | 128=>309 | 129=>310 | 294=>365 | 295=>366 | 296=>367 | 297=>368 | 298=>369 | 299=>370 | 216=>371 | 300=>372 | 301=>373 | 328=>393 | 329=>341 | 330=>342 | 331=>394 | 332=>395 | 215=>311 | 343=>403 | n=>n,λ| 28=>25 | 3=>3 | 46=>235 | 0=>0 | 51=>237 | 53=>421 | 4=>4 | 183=>414 | 182=>413 | 131=>99 | 5=>5 | 9=>9 | 218=>442 | 222=>446 | 228=>477 | 229=>138 | n=>n,λ| n=>n⟩
theorem Tryz.lays189:Go.Proofs.Lays.n189 Tryz.prog Tryz.lays189_ren:={
 mixed:=by kernel_rfl
 f125:=Tryz.func259.trans (congrArg some (by kernel_rfl))
 f128:=Tryz.func309.trans (congrArg some (by kernel_rfl))
 f129:=Tryz.func310.trans (congrArg some (by kernel_rfl))
 f189:=Tryz.func286.trans (congrArg some (by kernel_rfl))
 f215:=Tryz.func311.trans (congrArg some (by kernel_rfl))
 f216:=Tryz.func371.trans (congrArg some (by kernel_rfl))
 f257:=Tryz.func328.trans (congrArg some (by kernel_rfl))
 f294:=Tryz.func365.trans (congrArg some (by kernel_rfl))
 f295:=Tryz.func366.trans (congrArg some (by kernel_rfl))
 f296:=Tryz.func367.trans (congrArg some (by kernel_rfl))
 f297:=Tryz.func368.trans (congrArg some (by kernel_rfl))
 f298:=Tryz.func369.trans (congrArg some (by kernel_rfl))
 f299:=Tryz.func370.trans (congrArg some (by kernel_rfl))
 f300:=Tryz.func372.trans (congrArg some (by kernel_rfl))
 f301:=Tryz.func373.trans (congrArg some (by kernel_rfl))
 f328:=Tryz.func393.trans (congrArg some (by kernel_rfl))
 f329:=Tryz.func341.trans (congrArg some (by kernel_rfl))
 f330:=Tryz.func342.trans (congrArg some (by kernel_rfl))
 f331:=Tryz.func394.trans (congrArg some (by kernel_rfl))
 f332:=Tryz.func395.trans (congrArg some (by kernel_rfl))
 f343:=Tryz.func403.trans (congrArg some (by kernel_rfl))
 t0:=Tryz.underlying0
 a0:=Tryz.isAgg0
 z0:=Tryz.sizeOf0
 v0:=Tryz.zeroValue0
 t3:=Tryz.underlying3
 a3:=Tryz.isAgg3
 z3:=Tryz.sizeOf3
 v3:=Tryz.zeroValue3
 t4:=Tryz.underlying4
 a4:=Tryz.isAgg4
 z4:=Tryz.sizeOf4
 v4:=Tryz.zeroValue4
 t5:=Tryz.underlying5
 a5:=Tryz.isAgg5
 z5:=Tryz.sizeOf5
 v5:=Tryz.zeroValue5
 t9:=Tryz.underlying9
 a9:=Tryz.isAgg9
 z9:=Tryz.sizeOf9
 v9:=Tryz.zeroValue9
 t28:=Tryz.underlying25
 a28:=Tryz.isAgg25
 z28:=Tryz.sizeOf25
 v28:=Tryz.zeroValue25
 t46:=Tryz.underlying235
 a46:=Tryz.isAgg235
 z46:=Tryz.sizeOf235
 v46:=Tryz.zeroValue235
 t51:=Tryz.underlying237
 a51:=Tryz.isAgg237
 z51:=Tryz.sizeOf237
 v51:=Tryz.zeroValue237
 t53:=Tryz.underlying421
 a53:=Tryz.isAgg421
 z53:=Tryz.sizeOf421
 v53:=Tryz.zeroValue421
 t131:=Tryz.underlying99
 a131:=Tryz.isAgg99
 z131:=Tryz.sizeOf99
 v131:=Tryz.zeroValue99
 t182:=Tryz.underlying413
 a182:=Tryz.isAgg413
 z182:=Tryz.sizeOf413
 v182:=Tryz.zeroValue413
 t183:=Tryz.underlying414
 a183:=Tryz.isAgg414
 z183:=Tryz.sizeOf414
 v183:=Tryz.zeroValue414
 t218:=Tryz.underlying442
 a218:=Tryz.isAgg442
 z218:=Tryz.sizeOf442
 v218:=Tryz.zeroValue442
 t222:=Tryz.underlying446
 a222:=Tryz.isAgg446
 z222:=Tryz.sizeOf446
 v222:=Tryz.zeroValue446
 t228:=Tryz.underlying477
 a228:=Tryz.isAgg477
 z228:=Tryz.sizeOf477
 v228:=Tryz.zeroValue477
 t229:=Tryz.underlying138
 a229:=Tryz.isAgg138
 z229:=Tryz.sizeOf138
 v229:=Tryz.zeroValue138 }
open Go.Sort Go.RowKit in
theorem Tryz.slices_Sort_int(blk off cap:Nat)(zs:List Int)(w:World)(hH:Holds (Value.int .i64) w blk off zs.toArray)(hblk:blk<w.heap.size)(hsz:zs.length<4611686018427387904) :
  Calls Tryz.prog 286 #[.slice (some ⟨blk,off,none⟩) zs.length cap] w λe w' =>
   e=.returned (.tuple #[])/\∃n os,w'=grow (putRow (Value.int .i64) (Sort.ahead w n) blk off (zs.mergeSort λx y=>decide (x<=y)).toArray) os:=Any.slices_Sort_int Tryz.lays189 blk off cap zs w hH hblk hsz
open Go.RowKit Go.Sort in
theorem Tryz.slices_Sort_int_none(p:Option Addr)(cap:Nat)(w:World) :
  Calls Tryz.prog 286 #[.slice p 0 cap] w λe w'=>e=.returned (.tuple #[])/\w'=w:=Any.slices_Sort_int_none Tryz.lays189 p cap w
end Go.Proofs
namespace Go.Am
open Go.Proofs
open Go
def sumI:List Int->Int
 | []=>0
 | x :: r=>x+sumI r
def maxL(a:Int):List Int->Int
 | []=>a
 | x :: r=>maxL (if x>a then x else a) r
def Q4(n:Int):Nat->Int->Int
 | 0,r=>r
 | f+1,r=>if (r+1) * (r+1)<=n then Q4 n f (r+1) else r
def JE(n:Int):Int:=Q4 n n.toNat 0
def sqI(l:List Int):List Int:=l.map λn=>n * n
def YI(rule:ByteArray)(l:List Int):Int:=if rule=rG then maxL 0 l else if rule=rS then JE (sumI (sqI l)) else sumI l
def capI(n:Int):Int:=if n<256 then n else 256
def defP(w:Wk)(sec:Int)(st a b:Pt):Int:=defI w.d w.w (relP sec st a b).1 (relP sec st a b).2
def z6(w:Wk)(ps:List Pt)(sec:Int)(st:Pt)(j:Nat):List Int :=
 (List.range ps.length).map λi=>if i=j then 0 else defP w sec st (ps.getD i default) (ps.getD j default)
def wakesP(w:Wk)(ps:List Pt)(sec:Int)(st:Pt):List (List Int):=(List.range ps.length).map (z6 w ps sec st)
def jS(w:Wk)(ps:List Pt)(sec:Int)(st:Pt):List Int:=(wakesP w ps sec st).map λl=>capI (YI w.rule l)
def zr(l:List Int)(v:Int):List Int:=l.map λd=>v * (256 - d)
def lastP(c:Cu):Int:=c.p.getD (c.p.length - 1) 0
def valP(c:Cu)(v:Int):Int :=
 if v / 256>=(c.p.length:Int) - 1 then 256 * lastP c
 else 256 * c.p.getD (v / 256).toNat 0+(c.p.getD ((v / 256).toNat+1) 0 - c.p.getD (v / 256).toNat 0) * (v % 256)
def powP(w:Wk)(c:Cu)(ps:List Pt)(sec v above:Int):List Int:=(zr (jS w ps sec (zO sec)) (v+above)).map (valP c)
def YA(w:Wk)(c:Cu)(ps:List Pt)(above sec v q:Int):Int:=if q>0/\v<c.cut then q * sumI (powP w c ps sec v above) else 0
def rowE(w:Wk)(c:Cu)(ps:List Pt)(above sec:Int):Int->List Int->Int
 | _,[]=>0
 | v,q :: r=>YA w c ps above sec v q+rowE w c ps above sec (v+1) r
def enE(w:Wk)(c:Cu)(ps:List Pt)(above:Int):Int->List (List Int)->Int
 | _,[]=>0
 | s,row :: r=>rowE w c ps above s 0 row+enE w c ps above (s+1) r
def jN(w:Wk)(c:Cu)(r:List (List Int))(ps:List Pt)(above:Int):Int:=enE w c ps above 0 r
def psOf(s:Si):List Pt:=s.tb.map (·.at')
def wkFree:Wk:=⟨rM,[0],[0]⟩
def jH:Option Int->Int->Int
 | none,p=>zL [zV p 0 100000,0,if p=0 then 0 else 6]
 | some q,p=>zL [zV p 0 100000,if p<q then 11 else 0,0]
def Jx:Option Int->List Int->Int
 | _,[]=>0
 | prev,p :: r=>if jH prev p=0 then Jx (some p) r else jH prev p
def Jn(c:Cu):Int :=
 if (c.p.length:Int)<2 then 2 else if (c.p.length:Int)>51 then 2 else
  if Jx none c.p=0 then zV c.cut 1 51 else Jx none c.p
def JP:List Int->Int
 | []=>0
 | q :: r=>if zV q 0 40000=0 then JP r else 3
def Yf:List (List Int)->Int
 | []=>0
 | row :: r=>if JP row=0 then Yf r else 3
def jM(f:Fm):Int:=zL [z8 f.s,wakeE f.w,Jn f.c,Yf f.r]
def zm(r:List (List Int)):Prop:=r.length=8/\∀row∈r,row.length=51
def okQ(r:List (List Int)):Prop:=∀row∈r,∀q∈row,0<=q/\q<=40000
def okCu(c:Cu):Prop:=2<=c.p.length/\c.p.length<=51/\(∀p∈c.p,0<=p/\p<=100000)/\1<=c.cut/\c.cut<=51
def okWk(w:Wk):Prop:=(∀d∈w.d,0<=d/\d<=256)/\w.w.length=w.d.length/\w.d.length<=32
theorem range_zero{n a b:Int}:zV n a b=0 ↔ a<=n/\n<=b:=by unfold zV;split <;> omega
theorem zAU(n a b:Int):zV n a b=0\/zV n a b=3:=by unfold zV;split <;> simp
theorem cellsGo_ok:∀{l},JP l=0->∀q∈l,0<=q/\q<=40000
 | [],_,q,h=>by simp at h
 | x :: r,h,q,hq=>by
  unfold JP at h;split at h
  ·rename_i h0;rcases List.mem_cons.1 hq with rfl | hq
   ·exact range_zero.1 h0
   ·exact cellsGo_ok h q hq
  ·simp at h
theorem roseE_ok:∀{l},Yf l=0->okQ l
 | [],_,row,h=>by simp at h
 | x :: r,h,row,hq=>by
  unfold Yf at h;split at h
  ·rename_i h0;rcases List.mem_cons.1 hq with rfl | hq
   ·exact cellsGo_ok h0
   ·exact roseE_ok h row hq
  ·simp at h
theorem qF{a b c:Int}(h:zL [a,b,c]=0):a=0/\b=0/\c=0:=by
 simp only[zL] at h;split at h
 ·split at h
  ·split at h
   ·exact⟨by assumption,by assumption,by assumption⟩
   ·rename_i k;exact absurd h k
  ·rename_i k;exact absurd h k
 ·rename_i k;exact absurd h k
theorem firstL_4{a b c d:Int}(h:zL [a,b,c,d]=0):a=0/\b=0/\c=0/\d=0:=by
 simp only[zL] at h;split at h
 ·split at h
  ·split at h
   ·split at h
    ·exact⟨by assumption,by assumption,by assumption,by assumption⟩
    ·rename_i k;exact absurd h k
   ·rename_i k;exact absurd h k
  ·rename_i k;exact absurd h k
 ·rename_i k;exact absurd h k
theorem curveS_ok{prev:Option Int}{p:Int}(h:jH prev p=0):0<=p/\p<=100000:=by
 cases prev with
 | none=>exact range_zero.1 (qF h).1
 | some q=>exact range_zero.1 (qF h).1
theorem curveGo_ok:∀{l:List Int} {prev},Jx prev l=0->∀p∈l,0<=p/\p<=100000
 | [],_,_,q,h=>by simp at h
 | x :: r,prev,h,q,hq=>by
  unfold Jx at h;split at h
  ·rename_i h0;rcases List.mem_cons.1 hq with rfl | hq
   ·exact curveS_ok h0
   ·exact curveGo_ok h q hq
  ·rename_i h0;exact absurd h h0
theorem qw{c:Cu}(h:Jn c=0):okCu c/\Jx none c.p=0:=by
 unfold Jn at h;split at h
 ·simp at h
 ·split at h
  ·simp at h
  ·split at h
   ·rename_i h1;have:=range_zero.1 h;exact⟨⟨by omega,by omega,curveGo_ok h1,this.1,this.2⟩,h1⟩
   ·rename_i h1;exact absurd h h1
theorem Y1{b:Int}:∀l:List Int,(∀x∈l,0<=x/\x<=b)->0<=sumI l/\sumI l<=l.length * b
 | [],_=>by simp[sumI]
 | x :: r,h=>by
  have h1:=h x (by simp)
  have h2:=Y1 r λy hy=>h y (by simp[hy])
  simp only[sumI,List.length_cons,Int.natCast_add,Int.natCast_one,Int.add_mul,Int.one_mul];omega
theorem maxL_ge:∀(l:List Int) (a:Int),a<=maxL a l
 | [],a=>Int.le_refl a
 | x :: r,a=>by
  unfold maxL;have:=maxL_ge r (if x>a then x else a)
  split at this <;> (split <;> omega)
def IsRoot(r n:Int):Prop:=0<=r/\r * r<=n/\n<(r+1) * (r+1)
theorem jT{a b:Int}(h0:0<=a)(h:a<=b):a * a<=b * b:=Int.mul_le_mul h h h0 (by omega)
theorem IsRoot.unique{r s n:Int}(h:IsRoot r n)(k:IsRoot s n):r=s:=by
 obtain⟨h1,h2,h3⟩:=h;obtain⟨k1,k2,k3⟩:=k;rcases Int.lt_trichotomy r s with c | c | c
 ·have:=jT (a:=r+1) (b:=s) (by omega) (by omega);omega
 ·exact c
 ·have:=jT (a:=s+1) (b:=r) (by omega) (by omega);omega
theorem J4(n:Int):∀(f:Nat) (r:Int),0<=r->r * r<=n->n<=r+f->IsRoot (Q4 n f r) n
 | 0,r,h0,h1,h2=>by
  refine⟨h0,h1,?_⟩;have:(r+1) * (r+1)=r * r+2 * r+1:=by rw[Int.add_mul,Int.mul_add,Int.mul_one,Int.one_mul];omega
  have hr:0<=r * r:=Int.mul_nonneg h0 h0;simp only[Q4];omega
 | f+1,r,h0,h1,h2=>by
  unfold Q4;split
  ·rename_i h;exact J4 n f (r+1) (by omega) h (by omega)
  ·rename_i h;exact⟨h0,h1,by omega⟩
theorem jy{n:Int}(h:0<=n):IsRoot (JE n) n:=J4 n _ 0 (Int.le_refl 0) (by simpa using h) (by omega)
theorem sqI_bound{l:List Int}{b:Int}(h:∀x∈l,0<=x/\x<=b):∀x∈sqI l,0<=x/\x<=b * b:=by intro x hx;obtain⟨y,hy,rfl⟩:=List.mem_map.1 hx;have:=h y hy;exact⟨Int.mul_nonneg this.1 this.1,jT this.1 this.2⟩
theorem combI_nonneg{rule:ByteArray}{l:List Int}(h:∀x∈l,0<=x/\x<=256):0<=YI rule l:=by
 unfold YI;split
 ·exact maxL_ge l 0
 ·split
  ·exact(jy (Y1 _ (sqI_bound h)).1).1
  ·exact(Y1 l h).1
theorem capI_bound{n:Int}(h:0<=n):0<=capI n/\capI n<=256:=by unfold capI;split <;> omega
theorem getD_mem{α:Type}{l:List α}{i:Nat}{d:α}(h:i<l.length):l.getD i d∈l:=by rw[List.getD_eq_getElem?_getD,List.getElem?_eq_getElem h];simp
theorem YS{l:List Int}{b:Int}(hb:0<=b)(h:∀x∈l,0<=x/\x<=b)(i:Nat):0<=l.getD i 0/\l.getD i 0<=b:=by
 by_cases hi:i<l.length
 ·exact h _ (getD_mem hi)
 ·rw[List.getD_eq_getElem?_getD,List.getElem?_eq_none (by omega)];simp[hb]
theorem defI_bound{d w:List Int}(h:∀x∈d,0<=x/\x<=256)(s o:Int):0<=defI d w s o/\defI d w s o<=256:=by
 unfold defI;split
 ·simp
 ·exact YS (by decide) h _
theorem rowP'_bound{w:Wk}(h:okWk w)(ps:List Pt)(sec:Int)(st:Pt)(j:Nat):∀x∈z6 w ps sec st j,0<=x/\x<=256:=by
 intro x hx;obtain⟨i,_,rfl⟩:=List.mem_map.1 hx;split
 ·simp
 ·exact defI_bound h.1 _ _
theorem wakesP_bound{w:Wk}(h:okWk w)(ps:List Pt)(sec:Int)(st:Pt):∀l∈wakesP w ps sec st,l.length=ps.length/\∀x∈l,0<=x/\x<=256:=by intro l hl;obtain⟨j,_,rfl⟩:=List.mem_map.1 hl;exact⟨by simp[z6],rowP'_bound h ps sec st j⟩
theorem jZ{w:Wk}(h:okWk w)(ps:List Pt)(sec:Int)(st:Pt):∀d∈jS w ps sec st,0<=d/\d<=256:=by intro d hd;obtain⟨l,hl,rfl⟩:=List.mem_map.1 hd;exact capI_bound (combI_nonneg (wakesP_bound h ps sec st l hl).2)
theorem jO(w:Wk)(ps:List Pt)(sec:Int)(st:Pt):(jS w ps sec st).length=ps.length:=by simp[jS,wakesP]
theorem YZ{l:List Int}(h:∀d∈l,0<=d/\d<=256){v b:Int}(hv:0<=v)(hb:v<=b):∀x∈zr l v,0<=x/\x<=b * 256:=by intro x hx;obtain⟨d,hd,rfl⟩:=List.mem_map.1 hx;have:=h d hd;exact⟨Int.mul_nonneg hv (by omega),Int.mul_le_mul hb (by omega) (by omega) (by omega)⟩
theorem qs{p q f b:Int}(hp:0<=p/\p<=b)(hq:0<=q/\q<=b)(hf:0<=f/\f<=256):0<=256 * p+(q - p) * f/\256 * p+(q - p) * f<=256 * b:=by
 have e:256 * p+(q - p) * f=p * (256 - f)+q * f:=by rw[Int.sub_mul,Int.mul_sub,Int.mul_comm 256 p];omega
 have h1:=Int.mul_nonneg hp.1 (show 0<=256 - f by omega)
 have h2:=Int.mul_nonneg hq.1 hf.1;have h3:=Int.mul_le_mul_of_nonneg_right hp.2 (show 0<=256 - f by omega)
 have h4:=Int.mul_le_mul_of_nonneg_right hq.2 hf.1;have h5:b * (256 - f)+b * f=256 * b:=by rw[Int.mul_sub,Int.mul_comm b 256];omega
 omega
theorem valP_bound{c:Cu}(h:∀p∈c.p,0<=p/\p<=100000)(v:Int):0<=valP c v/\valP c v<=25600000:=by
 unfold valP;have g:=λi=>YS (b:=100000) (by decide) h i
 split
 ·have:=g (c.p.length - 1);unfold lastP;omega
 ·exact qs (b:=100000) (g _) (g _) ⟨Int.emod_nonneg v (by decide),by have:=Int.emod_lt_of_pos v (show(0:Int)<256 by decide);omega⟩
theorem Y4{c:Cu}(h:∀p∈c.p,0<=p/\p<=100000)(w:Wk)(ps:List Pt)(sec v above:Int):∀x∈powP w c ps sec v above,0<=x/\x<=25600000:=by intro x hx;obtain⟨y,_,rfl⟩:=List.mem_map.1 hx;exact valP_bound h y
theorem QI(w:Wk)(c:Cu)(ps:List Pt)(sec v above:Int):(powP w c ps sec v above).length=ps.length:=by simp[powP,zr,jO]
theorem zAT{c:Cu}(h:∀p∈c.p,0<=p/\p<=100000)(w:Wk){ps:List Pt}(hl:ps.length<=64)(sec v above:Int):0<=sumI (powP w c ps sec v above)/\sumI (powP w c ps sec v above)<=1638400000:=by
 have:=Y1 _ (Y4 h w ps sec v above);rw[QI] at this;have h1:(ps.length:Int) * 25600000<=64 * 25600000:=Int.mul_le_mul_of_nonneg_right (by omega) (by decide)
 omega
theorem Yd{c:Cu}(h:∀p∈c.p,0<=p/\p<=100000)(w:Wk){ps:List Pt}(hl:ps.length<=64)(above sec v:Int){q:Int}(hq:0<=q/\q<=40000):0<=YA w c ps above sec v q/\YA w c ps above sec v q<=65536000000000:=by
 unfold YA;split
 ·have h1:=zAT h w hl sec v above;exact⟨Int.mul_nonneg hq.1 h1.1,Int.mul_le_mul hq.2 h1.2 h1.1 (by decide)⟩
 ·simp
theorem YN{c:Cu}(h:∀p∈c.p,0<=p/\p<=100000)(w:Wk){ps:List Pt}(hl:ps.length<=64)(above sec:Int):∀(l:List Int) (v:Int),(∀q∈l,0<=q/\q<=40000)->0<=rowE w c ps above sec v l/\rowE w c ps above sec v l<=l.length * 65536000000000
 | [],v,_=>by simp[rowE]
 | q :: r,v,hq=>by
  have h1:=Yd h w hl above sec v (hq q (by simp))
  have h2:=YN h w hl above sec r (v+1) λx hx=>hq x (by simp[hx])
  simp only[rowE,List.length_cons,Int.natCast_add,Int.natCast_one,Int.add_mul,Int.one_mul];omega
theorem enE_bound{c:Cu}(h:∀p∈c.p,0<=p/\p<=100000)(w:Wk){ps:List Pt}(hl:ps.length<=64)(above:Int):∀(l:List (List Int)) (s:Int),(∀row∈l,row.length=51)->okQ l->0<=enE w c ps above s l/\enE w c ps above s l<=l.length * 3342336000000000
 | [],v,_,_=>by simp[enE]
 | q :: r,v,hq,hk=>by
  have h1:=YN h w hl above v q 0 (hk q (by simp))
  have h2:=enE_bound h w hl above r (v+1) (λx hx=>hq x (by simp[hx])) (λx hx=>hk x (by simp[hx]))
  have h3:=hq q (by simp)
  rw[h3] at h1;simp only[enE,List.length_cons,Int.natCast_add,Int.natCast_one,Int.add_mul,Int.one_mul];omega
theorem YU{c:Cu}(h:okCu c)(w:Wk){ps:List Pt}(hl:ps.length<=64)(above:Int){r:List (List Int)}(hr:zm r)(hq:okQ r):0<=jN w c r ps above/\jN w c r ps above<=26738688000000000:=by have:=enE_bound h.2.2.1 w hl above r 0 hr.2 hq;rw[hr.1] at this;unfold jN;omega
theorem rowE_zero(w:Wk)(c:Cu)(ps:List Pt)(above sec:Int):∀(l:List Int) (v:Int),(∀q∈l,q=0)->rowE w c ps above sec v l=0
 | [],_,_=>rfl
 | q :: r,v,h=>by
  unfold rowE YA;rw[h q (by simp),if_neg (by omega),rowE_zero w c ps above sec r (v+1) λx hx=>h x (by simp[hx])]
  rfl
end Go.Am
namespace Go.Am
open Go.Proofs
open Go
def incr(l:List Int):Prop:=∀i j,i<=j->j<l.length->l.getD i 0<=l.getD j 0
theorem JF(x:Int)(l:List Int)(i:Nat):(x :: l).getD (i+1) 0=l.getD i 0:=by simp[List.getD_eq_getElem?_getD]
theorem zBg:∀(l:List Int) (q:Int),Jx (some q) l=0->(∀i,i<l.length->q<=l.getD i 0)/\incr l
 | [],q,_=>⟨λi h=>by simp at h,λi j _ h=>by simp at h⟩
 | x :: r,q,h=>by
  unfold Jx at h;split at h
  ·rename_i h0;obtain⟨_,h1,_⟩:=qF h0;have hq:q<=x:=by
    rcases Int.lt_or_le x q with hh | hh
    ·rw[if_pos hh] at h1;simp at h1
    ·exact hh
   obtain⟨k1,k2⟩:=zBg r x h;refine⟨λi hi=>?_,λi j hij hj=>?_⟩
   ·cases i with
    | zero=>exact hq
    | succ i =>
     rw[JF];have:=k1 i (by simpa using hi)
     omega
   ·cases j with
    | zero =>
     obtain rfl:i=0:=by omega
     exact Int.le_refl _
    | succ j =>
     rw[JF];cases i with
     | zero=>exact k1 j (by simpa using hj)
     | succ i=>rw[JF];exact k2 i j (by omega) (by simpa using hj)
  ·rename_i h0;exact absurd h h0
theorem curveGo_incr0(l:List Int)(h:Jx none l=0):incr l/\l.getD 0 0=0:=by
 cases l with
 | nil=>exact⟨λi j _ h=>by simp at h,rfl⟩
 | cons x r =>
  unfold Jx at h;split at h
  ·rename_i h0;obtain⟨_,_,h2⟩:=qF h0;have hx:x=0:=by
    by_cases hh:x=0
    ·exact hh
    ·rw[if_neg hh] at h2;simp at h2
   obtain⟨k1,k2⟩:=zBg r x h;refine⟨λi j hij hj=>?_,hx⟩
   cases j with
   | zero =>
    obtain rfl:i=0:=by omega
    exact Int.le_refl _
   | succ j =>
    rw[JF];cases i with
    | zero=>exact k1 j (by simpa using hj)
    | succ i=>rw[JF];exact k2 i j (by omega) (by simpa using hj)
  ·rename_i h0;exact absurd h h0
theorem mix_mono{p q f g:Int}(h:p<=q)(hf:f<=g):256 * p+(q - p) * f<=256 * p+(q - p) * g:=by
 have:=Int.mul_le_mul_of_nonneg_left hf (show 0<=q - p by omega)
 omega
theorem valP_cell{c:Cu}(hi:incr c.p)(v:Int)(h0:0<=v)(k:Nat)(hk:v / 256=k)(hl:k+1<c.p.length):valP c v=256 * c.p.getD k 0+(c.p.getD (k+1) 0 - c.p.getD k 0) * (v % 256)/\256 * c.p.getD k 0<=valP c v/\valP c v<=256 * c.p.getD (k+1) 0:=by
 have e:valP c v=256 * c.p.getD k 0+(c.p.getD (k+1) 0 - c.p.getD k 0) * (v % 256):=by
  unfold valP;rw[hk,if_neg (by omega)]
  simp
 have hf0:=Int.emod_nonneg v (show(256:Int)≠0 by decide)
 have hf1:=Int.emod_lt_of_pos v (show(0:Int)<256 by decide)
 have hp:=hi k (k+1) (by omega) hl
 have m0:=mix_mono hp hf0;have m1:=mix_mono hp (show v % 256<=256 by omega)
 rw[Int.mul_zero,Int.add_zero] at m0;have e2:256 * c.p.getD k 0+(c.p.getD (k+1) 0 - c.p.getD k 0) * 256=256 * c.p.getD (k+1) 0:=by rw[Int.sub_mul];omega
 rw[e2] at m1;rw[e];exact⟨rfl,m0,m1⟩
theorem valP_mono{c:Cu}(hl:2<=c.p.length)(hi:incr c.p){v v':Int}(h0:0<=v)(h:v<=v'):valP c v<=valP c v':=by
 obtain⟨k,hk⟩:∃k:Nat,v / 256=k:=⟨(v / 256).toNat,by omega⟩
 obtain⟨k',hk'⟩:∃k:Nat,v' / 256=k:=⟨(v' / 256).toNat,by omega⟩
 have hkk:k<=k':=by omega
 have last:∀(u:Int) (j:Nat),u / 256=j->c.p.length<=j+1->valP c u=256 * c.p.getD (c.p.length - 1) 0:=by intro u j hj hlj;unfold valP lastP;rw[hj,if_pos (by omega)]
 by_cases c1:k+1<c.p.length
 ·obtain⟨e1,a1,b1⟩:=valP_cell hi v h0 k hk c1;by_cases c2:k'+1<c.p.length
  ·obtain⟨e2,a2,b2⟩:=valP_cell hi v' (by omega) k' hk' c2
   by_cases he:k=k'
   ·subst he;rw[e1,e2];exact mix_mono (hi k (k+1) (by omega) c1) (by omega)
   ·have:=hi (k+1) k' (by omega) (by omega)
    omega
  ·rw[last v' k' hk' (by omega)]
   have:=hi (k+1) (c.p.length - 1) (by omega) (by omega)
   omega
 ·rw[last v k hk (by omega),last v' k' hk' (by omega)]
  exact Int.le_refl _
theorem sumI_map_le{α:Type}{f g:α->Int}:∀l:List α,(∀x∈l,f x<=g x)->sumI (l.map f)<=sumI (l.map g)
 | [],_=>Int.le_refl _
 | x :: r,h=>by
  have h1:=h x (by simp)
  have h2:=sumI_map_le r λy hy=>h y (by simp[hy])
  simp only[List.map_cons,sumI];omega
theorem rowE_le{w w':Wk}{c:Cu}{ps ps':List Pt}{above above' sec:Int}(h:∀v,0<=v->v<=50->sumI (powP w c ps sec v above)<=sumI (powP w' c ps' sec v above')) :
  ∀(l:List Int) (v:Int),0<=v->v+l.length<=51->(∀q∈l,0<=q)->rowE w c ps above sec v l<=rowE w' c ps' above' sec v l
 | [],_,_,_,_=>Int.le_refl _
 | q :: r,v,h0,h1,hq=>by
  simp only[List.length_cons,Int.natCast_add,Int.natCast_one] at h1;have k1:=rowE_le h r (v+1) (by omega) (by omega) λx hx=>hq x (by simp[hx])
  have k2:=h v h0 (by omega)
  have k3:=hq q (by simp)
  simp only[rowE,YA];have:(if q>0/\v<c.cut then q * sumI (powP w c ps sec v above) else 0)<=if q>0/\v<c.cut then q * sumI (powP w' c ps' sec v above') else 0:=by
   split
   ·exact Int.mul_le_mul_of_nonneg_left k2 k3
   ·exact Int.le_refl _
  omega
theorem enE_le{w w':Wk}{c:Cu}{ps ps':List Pt}{above above':Int}(h:∀sec v,0<=sec->sec<=7->0<=v->v<=50->sumI (powP w c ps sec v above)<=sumI (powP w' c ps' sec v above')) :
  ∀(l:List (List Int)) (s:Int),0<=s->s+l.length<=8->(∀row∈l,row.length=51)->okQ l->enE w c ps above s l<=enE w' c ps' above' s l
 | [],_,_,_,_,_=>Int.le_refl _
 | q :: r,s,h0,h1,hr,hq=>by
  simp only[List.length_cons,Int.natCast_add,Int.natCast_one] at h1;have k1:=enE_le h r (s+1) (by omega) (by omega) (λx hx=>hr x (by simp[hx])) λx hx=>hq x (by simp[hx])
  have hl:=hr q (by simp)
  have k2:=rowE_le (sec:=s) (λv a b=>h s v h0 (by omega) a b) q 0 (Int.le_refl 0) (by omega) λx hx=>(hq q (by simp) x hx).1
  simp only[enE];omega
theorem energyI_le{w w':Wk}{c:Cu}{ps ps':List Pt}{above above':Int}{r:List (List Int)}(hr:zm r)(hq:okQ r)(h:∀sec v,0<=sec->sec<=7->0<=v->v<=50->sumI (powP w c ps sec v above)<=sumI (powP w' c ps' sec v above')) :
  jN w c r ps above<=jN w' c r ps' above' :=
 enE_le h r 0 (Int.le_refl 0) (by have:=hr.1;omega) hr.2 hq
theorem defI_free(s o:Int):defI [0] [0] s o=0:=by
 unfold defI;split
 ·rfl
 ·have:∀i:Nat,([0]:List Int).getD i 0=0:=by
   intro i;cases i with
   | zero=>rfl
   | succ i=>simp[List.getD_eq_getElem?_getD]
  exact this _
theorem sumI_zero:∀l:List Int,(∀x∈l,x=0)->sumI l=0
 | [],_=>rfl
 | x :: r,h=>by rw[sumI,h x (by simp),sumI_zero r λy hy=>h y (by simp[hy])];rfl
theorem combP_free(ps:List Pt)(sec:Int)(st:Pt):∀d∈jS wkFree ps sec st,d=0:=by
 intro d hd;obtain⟨l,hl,rfl⟩:=List.mem_map.1 hd;obtain⟨j,_,rfl⟩:=List.mem_map.1 hl;have hz:∀x∈z6 wkFree ps sec st j,x=0:=by
  intro x hx;obtain⟨i,_,rfl⟩:=List.mem_map.1 hx;split
  ·rfl
  ·exact defI_free _ _
 have:YI wkFree.rule (z6 wkFree ps sec st j)=0:=by
  unfold YI wkFree;rw[if_neg (by decide),if_neg (by decide)]
  exact sumI_zero _ hz
 rw[this];rfl
theorem combP_free'(ps:List Pt)(sec:Int)(st:Pt):jS wkFree ps sec st=List.replicate ps.length 0:=by
 refine List.ext_getElem (by simp[jO]) λi h1 h2=>?_
 rw[List.getElem_replicate];exact combP_free ps sec st _ (List.getElem_mem h1)
theorem powP_free_le{w:Wk}{c:Cu}(hw:okWk w)(hl:2<=c.p.length)(hi:incr c.p)(ps:List Pt)(sec v:Int)(hv:0<=v):sumI (powP w c ps sec v 0)<=sumI (powP wkFree c ps sec v 0):=by
 have e:powP wkFree c ps sec v 0=(jS w ps sec (zO sec)).map λ_=>valP c (v * 256):=by
  unfold powP zr;rw[combP_free',List.map_replicate,List.map_replicate,Int.add_zero];have:=jO w ps sec (zO sec);refine List.ext_getElem (by simp[this]) λi h1 h2=>?_
  simp
 have e':powP w c ps sec v 0=(jS w ps sec (zO sec)).map λd=>valP c (v * (256 - d)):=by unfold powP zr;rw[List.map_map,Int.add_zero];rfl
 rw[e,e'];refine sumI_map_le _ λd hd=>valP_mono hl hi ?_ ?_
 ·exact Int.mul_nonneg hv (by have:=jZ hw ps sec (zO sec) d hd;omega)
 ·exact Int.mul_le_mul_of_nonneg_left (by have:=jZ hw ps sec (zO sec) d hd;omega) hv
theorem energy_free_le{w:Wk}{c:Cu}{r:List (List Int)}(hw:okWk w)(hc:okCu c)(hi:incr c.p)(hr:zm r)(hq:okQ r)(ps:List Pt):jN w c r ps 0<=jN wkFree c r ps 0 :=
 energyI_le hr hq λsec v _ _ hv _=>powP_free_le hw hc.1 hi ps sec v hv
end Go.Am
namespace Go.Am
open Go.Proofs
open Go
theorem zAf(key:Nat->Int)(out:List Nat)(i:Nat):∀a,a<=out.length ->
  posR key out i a<=a/\(∀m,posR key out i a<=m->m<a->key i<key (out.getD m 0))/\(0<posR key out i a->key (out.getD (posR key out i a - 1) 0)<=key i)
 | 0,_=>⟨Nat.le_refl _,λm _ h=>by omega,λh=>by simp[posR] at h⟩
 | a+1,h=>by
  unfold posR;split
  ·rename_i hk;obtain⟨h1,h2,h3⟩:=zAf key out i a (by omega)
   refine⟨by omega,λm hm hm'=>?_,h3⟩
   by_cases e:m=a
   ·subst e;exact hk
   ·exact h2 m hm (by omega)
  ·rename_i hk;exact⟨Nat.le_refl _,λm _ h=>by omega,λ_=>by simp at hk ⊢;exact hk⟩
def sortedBy(key:Nat->Int)(l:List Nat):Prop:=∀i j,i<j->j<l.length->key (l.getD i 0)<=key (l.getD j 0)
theorem getD_nat{l:List Nat}{i:Nat}(h:i<l.length):l.getD i 0=l[i]:=by rw[List.getD_eq_getElem?_getD,List.getElem?_eq_getElem h];rfl
theorem insR_get(key:Nat->Int)(out:List Nat)(i k:Nat):(insR key out i).getD k 0 =
  if k<posR key out i out.length then out.getD k 0 else if k=posR key out i out.length then i else out.getD (k - 1) 0:=by
 have hp:=(zAf key out i out.length (Nat.le_refl _)).1;unfold insR;generalize posR key out i out.length=p at hp ⊢;simp only[List.getD_eq_getElem?_getD];by_cases h1:k<p
 ·rw[if_pos h1,List.append_assoc,List.getElem?_append_left (by simp;omega),List.getElem?_take_of_lt h1]
 ·rw[if_neg h1];by_cases h2:k=p
  ·subst h2;rw[if_pos rfl,List.append_assoc,List.getElem?_append_right (by simp;omega)]
   simp[Nat.min_eq_left hp]
  ·rw[if_neg h2,List.getElem?_append_right (by simp;omega),List.getElem?_drop]
   congr 2;simp[Nat.min_eq_left hp];omega
theorem insR_sorted{key:Nat->Int}{out:List Nat}(i:Nat)(h:sortedBy key out):sortedBy key (insR key out i):=by
 obtain⟨hp,h2,h3⟩:=zAf key out i out.length (Nat.le_refl _);intro a b hab hb;have hlen:(insR key out i).length=out.length+1:=by unfold insR;simp;omega
 rw[insR_get,insR_get];generalize posR key out i out.length=p at hp h2 h3 ⊢;have hlow:∀a,a<p->key (out.getD a 0)<=key i:=by
  intro a ha;have h0:=h3 (by omega)
  by_cases e:a=p - 1
  ·rw[e];exact h0
  ·exact Int.le_trans (h a (p - 1) (by omega) (by omega)) h0
 by_cases c1:a<p
 ·rw[if_pos c1];by_cases c2:b<p
  ·rw[if_pos c2];exact h a b hab (by omega)
  ·rw[if_neg c2];by_cases c3:b=p
   ·rw[if_pos c3];exact hlow a c1
   ·rw[if_neg c3];exact h a (b - 1) (by omega) (by omega)
 ·rw[if_neg c1,if_neg (by omega:¬b<p),if_neg (by omega:¬b=p)]
  by_cases c2:a=p
  ·rw[if_pos c2];exact Int.le_of_lt (h2 (b - 1) (by omega) (by omega))
  ·rw[if_neg c2];exact h (a - 1) (b - 1) (by omega) (by omega)
theorem zAu(key:Nat->Int):∀n,sortedBy key (zz key n)
 | 0=>λi j _ h=>by simp[zz] at h
 | n+1=>insR_sorted n (zAu key n)
theorem insR_perm(key:Nat->Int)(out:List Nat)(i:Nat):(insR key out i).Perm (i :: out):=by unfold insR;rw[List.append_assoc];refine(List.perm_middle (a:=i) (l₁:=out.take (posR key out i out.length)) (l₂:=out.drop (posR key out i out.length))).trans ?_;rw[List.take_append_drop]
theorem qJ(key:Nat->Int):∀n,(zz key n).Perm (List.range n)
 | 0=>.refl _
 | n+1=>by rw[zz,List.range_succ];exact(insR_perm key _ n).trans (((qJ key n).cons n).trans (List.perm_append_singleton n (List.range n)).symm)
theorem orderR_mem'(key:Nat->Int)(n i:Nat):i∈zz key n ↔ i<n:=by rw[(qJ key n).mem_iff,List.mem_range]
theorem JH(key:Nat->Int)(n:Nat):(zz key n).length=n:=by rw[(qJ key n).length_eq,List.length_range]
end Go.Am
namespace Go.Am
open Go.Proofs
open Go Go.RowKit
attribute [local go_sem] Oper.semAt_some
def orZ(x y:Int):Int:=if x=0 then y else x
set_option maxRecDepth 100000 in
set_option maxHeartbeats 2000000 in
theorem or2(x y:Int)(b:Nat)(w:World)(h0:w.cell? ⟨b,0,none⟩=some (.int .i64 x))(h1:w.cell? ⟨b,1,none⟩=some (.int .i64 y)) :
  Calls Tryz.prog 260 #[.slice (some ⟨b,0,none⟩) 2 2] w λe w'=>e=.returned (.int .i64 (orZ x y))/\w'=w:=by
 unfold orZ;refine(callsIn_wide (n:=0)).1 (callsIn_of_wp Tryz.func260 rfl trivial ?_ rfl);simp only[Tryz.ntmps260,List.size_toArray,List.length_cons,List.length_nil,Nat.reduceAdd,Nat.reduceSub,Array.replicate_succ,Array.replicate_zero,List.push_toArray,List.append_toArray,List.nil_append,List.cons_append]
 gi_wp2
 gi_loopw [8] (λp wr=>wr=w/\(p=.int .i64 0\/(p=.int .i64 1/\x=0)\/(p=.int .i64 2/\x=0/\y=0))) (λp _=>2 - qo p)
 case atStart=>exact⟨rfl,.inl rfl⟩
 case round =>
  obtain⟨rfl,rfl | ⟨rfl,hx⟩ | ⟨rfl,hx,hy⟩⟩:=hrel
  ·by_cases hx:x=0
   ·gi_wp2
    exact⟨⟨trivial,.inr (.inl ⟨rfl,hx⟩)⟩,by simp[qo]⟩
   ·gi_wp2
    go_ret;simp[hx]
  ·by_cases hy:y=0
   ·gi_wp2
    exact⟨⟨trivial,.inr (.inr ⟨rfl,hx,hy⟩)⟩,by simp[qo]⟩
   ·gi_wp2
    go_ret;simp[hx]
  ·gi_wp2
   go_ret;simp[hx,hy]
def cmpZ(x y:Int):Int:=if x<y then -1 else if x>y then 1 else 0
set_option maxRecDepth 100000 in
set_option maxHeartbeats 2000000 in
theorem cmp2(x y:Int)(w:World):Calls Tryz.prog 261 #[.int .i64 x,.int .i64 y] w λe w'=>e=.returned (.int .i64 (cmpZ x y))/\w'=w:=by
 have hcon:=λ(z:Int) (W':World)=>Tryz.cmp_isNaN_int2 z W'
 go_enter Tryz.func261,Tryz.ntmps261
 by_cases h1:x<y
 ·go_wp2_with (go_at_call 311;refine(hcon _ _).mono ?_;rintro e w' ⟨rfl,rfl⟩)
  go_ret;simp[cmpZ,h1]
 ·by_cases h2:x>y
  ·go_wp2_with (go_at_call 311;refine(hcon _ _).mono ?_;rintro e w' ⟨rfl,rfl⟩)
   go_ret;simp[cmpZ,h1,h2]
  ·go_wp2_with (go_at_call 311;refine(hcon _ _).mono ?_;rintro e w' ⟨rfl,rfl⟩)
   go_ret;refine⟨?_,rfl⟩;unfold cmpZ;rw[if_neg (by omega),if_neg (by omega)]
   rfl
end Go.Am
namespace Go.Proofs
open Go.Shelf
def Tryz.sortPl_ren:Go.Shelf.Ren:=⟨λ| 6=>188 | 15=>259 | 14=>258 | 28=>309 | 29=>310 | 20=>301 | 21=>302 | 22=>303 | 23=>304 | 24=>305 | 25=>306 | 26=>307 | 27=>308 | 46=>340 | 47=>341 | 48=>342 | 49=>343 | 50=>344 | 57=>379 | n=>n,λ| 22=>300 | 24=>302 | 25=>304 | 3=>3 | 39=>235 | 0=>0 | 53=>237 | 55=>421 | 4=>4 | 46=>414 | 45=>413 | 50=>99 | 5=>5 | 9=>9 | 66=>442 | 70=>446 | 76=>477 | 77=>138 | n=>n,λ| n=>n⟩
theorem Tryz.sortPl:Go.Proofs.SlLaysF0.n6 Tryz.prog Tryz.sortPl_ren:={
 mixed:=by kernel_rfl
 f6:=⟨Tryz.f188.name,by decide,Tryz.func188.trans (congrArg some (by kernel_rfl))⟩
 f14:=⟨Tryz.f258.name,by decide,Tryz.func258.trans (congrArg some (by kernel_rfl))⟩
 f15:=Tryz.func259.trans (congrArg some (by kernel_rfl))
 f20:=⟨Tryz.f301.name,by decide,Tryz.func301.trans (congrArg some (by kernel_rfl))⟩
 f21:=⟨Tryz.f302.name,by decide,Tryz.func302.trans (congrArg some (by kernel_rfl))⟩
 f22:=⟨Tryz.f303.name,by decide,Tryz.func303.trans (congrArg some (by kernel_rfl))⟩
 f23:=⟨Tryz.f304.name,by decide,Tryz.func304.trans (congrArg some (by kernel_rfl))⟩
 f24:=⟨Tryz.f305.name,by decide,Tryz.func305.trans (congrArg some (by kernel_rfl))⟩
 f25:=⟨Tryz.f306.name,by decide,Tryz.func306.trans (congrArg some (by kernel_rfl))⟩
 f26:=⟨Tryz.f307.name,by decide,Tryz.func307.trans (congrArg some (by kernel_rfl))⟩
 f27:=⟨Tryz.f308.name,by decide,Tryz.func308.trans (congrArg some (by kernel_rfl))⟩
 f28:=Tryz.func309.trans (congrArg some (by kernel_rfl))
 f29:=Tryz.func310.trans (congrArg some (by kernel_rfl))
 f46:=⟨Tryz.f340.name,by decide,Tryz.func340.trans (congrArg some (by kernel_rfl))⟩
 f47:=Tryz.func341.trans (congrArg some (by kernel_rfl))
 f48:=Tryz.func342.trans (congrArg some (by kernel_rfl))
 f49:=⟨Tryz.f343.name,by decide,Tryz.func343.trans (congrArg some (by kernel_rfl))⟩
 f50:=⟨Tryz.f344.name,by decide,Tryz.func344.trans (congrArg some (by kernel_rfl))⟩
 f57:=⟨Tryz.f379.name,by decide,Tryz.func379.trans (congrArg some (by kernel_rfl))⟩
 t0:=Tryz.underlying0
 a0:=Tryz.isAgg0
 z0:=Tryz.sizeOf0
 v0:=Tryz.zeroValue0
 t3:=Tryz.underlying3
 a3:=Tryz.isAgg3
 z3:=Tryz.sizeOf3
 v3:=Tryz.zeroValue3
 t4:=Tryz.underlying4
 a4:=Tryz.isAgg4
 z4:=Tryz.sizeOf4
 v4:=Tryz.zeroValue4
 t5:=Tryz.underlying5
 a5:=Tryz.isAgg5
 z5:=Tryz.sizeOf5
 v5:=Tryz.zeroValue5
 t9:=Tryz.underlying9
 a9:=Tryz.isAgg9
 z9:=Tryz.sizeOf9
 v9:=Tryz.zeroValue9
 t22:=Tryz.underlying300
 a22:=Tryz.isAgg300
 z22:=Tryz.sizeOf300
 v22:=Tryz.zeroValue300
 t25:=Tryz.underlying304
 a25:=Tryz.isAgg304
 z25:=Tryz.sizeOf304
 v25:=Tryz.zeroValue304
 t39:=Tryz.underlying235
 a39:=Tryz.isAgg235
 z39:=Tryz.sizeOf235
 v39:=Tryz.zeroValue235
 t45:=Tryz.underlying413
 a45:=Tryz.isAgg413
 z45:=Tryz.sizeOf413
 v45:=Tryz.zeroValue413
 t46:=Tryz.underlying414
 a46:=Tryz.isAgg414
 z46:=Tryz.sizeOf414
 v46:=Tryz.zeroValue414
 t50:=Tryz.underlying99
 a50:=Tryz.isAgg99
 z50:=Tryz.sizeOf99
 v50:=Tryz.zeroValue99
 t53:=Tryz.underlying237
 a53:=Tryz.isAgg237
 z53:=Tryz.sizeOf237
 v53:=Tryz.zeroValue237
 t55:=Tryz.underlying421
 a55:=Tryz.isAgg421
 z55:=Tryz.sizeOf421
 v55:=Tryz.zeroValue421
 t66:=Tryz.underlying442
 a66:=Tryz.isAgg442
 z66:=Tryz.sizeOf442
 v66:=Tryz.zeroValue442
 t70:=Tryz.underlying446
 a70:=Tryz.isAgg446
 z70:=Tryz.sizeOf446
 v70:=Tryz.zeroValue446
 t76:=Tryz.underlying477
 a76:=Tryz.isAgg477
 z76:=Tryz.sizeOf477
 v76:=Tryz.zeroValue477
 t77:=Tryz.underlying138
 a77:=Tryz.isAgg138
 z77:=Tryz.sizeOf138
 v77:=Tryz.zeroValue138 }
end Go.Proofs
