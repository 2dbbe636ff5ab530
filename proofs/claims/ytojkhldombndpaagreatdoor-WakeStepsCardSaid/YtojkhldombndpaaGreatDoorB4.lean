/- The abstract machine, the contracts of the functions that are walked by hand, and the examples of the document. Part 4. -/
import Derived.Test.YtojkhldombndpaaGreatDoorB3
set_option linter.all false
namespace Go.Am
open Go.Proofs
open Go Go.RowKit
section
variable{P:Program}{E:Env}{call:FuncId->List DV->Option CR}
structure Indep(ops:List Oper)(y x:Oper×Nat):Prop where
 py:pivot ops y.2=false
 px:pivot ops x.2=false
 pair:Pair ops y.1 x.1
theorem bubble{ops:List Oper}(hs:Stat ops):∀(L1:List (Oper×Nat)) {x:Oper×Nat} {L2:List (Oper×Nat)} {st stf:St},(∀p∈L1++x :: L2,ops[p.2]? = some p.1)->(L1++x :: L2).Pairwise (λp q=>p.2<q.2)->Inv ops (L1++x :: L2) st ->
  (∀y∈L1,Indep ops y x)->seqD E call ops (L1++x :: L2) st=some stf->seqD E call ops (x :: (L1++L2)) st=some stf
 | [],x,L2,st,stf,_,_,_,_,h=>h
 | y :: L1,x,L2,st,stf,hLo,hsort,hI,hind,h=>by
  obtain⟨oy,iy⟩:=y;obtain⟨ox,ix⟩:=x;simp only[List.cons_append,seqD] at h;obtain⟨st1,h1,h⟩:=bind_some h;have hsort':=(List.pairwise_cons.1 hsort).2;have hlt:=(List.pairwise_cons.1 hsort).1;have hI1:Inv ops (L1++(ox,ix) :: L2) st1:=hI.step hs hLo (λp hp=>List.mem_cons_of_mem _ hp) (List.mem_cons_self) (λo' hm=>by have:=hlt _ hm;simp at this) h1
  have ih:=bubble hs L1 (λp hp=>hLo p (List.mem_cons_of_mem _ hp)) hsort' hI1 (λz hz=>hind z (List.mem_cons_of_mem _ hz)) h
  simp only[seqD] at ih;obtain⟨st2,h2,h3⟩:=bind_some ih;have hi:=hind (oy,iy) List.mem_cons_self;have hpy:pivot ops iy=false:=hi.py;have hpx:pivot ops ix=false:=hi.px;have hoy:ops[iy]? = some oy:=hLo (oy,iy) List.mem_cons_self;have hox:ops[ix]? = some ox:=hLo (ox,ix) (by simp)
  have s1:Y3 E call ops oy st=some st1:=by have:=h1;unfold Q2 at this;rw[hpy] at this;exact this
  have s2:Y3 E call ops ox st1=some st2:=by have:=h2;unfold Q2 at this;rw[hpx] at this;exact this
  obtain⟨st1',t1,t2⟩:=swap hi.pair (hI.know hs (o:=oy) (i:=iy) List.mem_cons_self hoy hpy) (hI.know hs (o:=ox) (i:=ix) (by simp) hox hpx) s1 s2
  have d1:Q2 E call ops ox ix st=some st1':=by unfold Q2;rw[hpx];exact t1
  have d2:Q2 E call ops oy iy st1'=some st2:=by unfold Q2;rw[hpy];exact t2
  simp only[List.cons_append,seqD,d1,zN,d2];exact h3
variable{base:Nat}{S:Nat->Prop}{φ:Nat->Option Nat}{st:St}{a:Act}{w:World}
theorem stepN_S{ops:List Oper}{o:Oper}(hg:jn ops o st.tm=some true)(hf:owns o.op=true->freeRef (zc o) st){st1:St}(h:Y3 E call ops o st=some st1):YE E call o st=some st1:=by
 unfold Y3 at h;obtain⟨ef,he,h⟩:=bind_some h;obtain⟨_,h⟩:=zJ h;injection h with h
 rcases J3 he with ⟨hb,_⟩ | ⟨_,hee,hc⟩
 ·rw[hg] at hb;cases hb
 ·obtain⟨_,h1,_,h3⟩:=Yc hc;unfold YE;rw[hee];simp only[zN,h1,zY];cases hn:ef.new with
  | none=>simp only[h]
  | some b =>
   obtain⟨h4,h5⟩:=h3 b hn;have hfr:=hf ((QT hee).new (by simp[hn]))
   simp only[h4,h5,Bool.and_true,zY,clear_free hfr,h]
theorem Inv.start(ops:List Oper)(L:List (Oper×Nat))(st:St):Inv ops L (clearL (anews ops) st):=λs hs =>
 ⟨λ_ _ _=>Ys _ st s (.inl hs),λ_ _ _=>(Ys _ st s (.inl hs)).only⟩
theorem Rel.clearL(bs:List Nat):∀{φ:Nat->Option Nat} {st:St},Rel E base S φ st a w->∃φ',Rel E base S φ' (Am.clearL bs st) a w:=by
 induction bs with
 | nil=>exact λh=>⟨_,h⟩
 | cons b bs ih=>exact λh=>ih (h.clear b)
theorem Qb{ops:List Oper}(hb:Y0 ops=true){j:Nat}{o:Oper}(ho:ops[j]? = some o){e:Edge}(he:e∈o.after.toList)(hbd:Region.binds .any e=true):e.on<j:=by
 unfold Y0 at hb;have hm:(o,j)∈ops.zipIdx:=by rw[List.mem_iff_getElem?];exact⟨j,by simp[List.getElem?_zipIdx,ho]⟩
 have h1:=List.all_eq_true.1 hb (o,j) hm;have h2:=List.all_eq_true.1 h1 e he;simpa[hbd] using h2
theorem clash_pair{ops:List Oper}(hs:Stat ops){i j:Nat}{a b:Oper}(ha:ops[i]? = some a)(hb:ops[j]? = some b)(hij:i<j)(hc:clash ops a b=false):Pair ops a b:=by
 unfold clash at hc;simp only[Bool.or_eq_false_iff] at hc;obtain⟨⟨⟨⟨c1,c2⟩,_⟩,c4⟩,c5⟩:=hc;have hit:∀{x y:Oper},hits ops x y=false->∀d,x.dst=some d->d ∉ looks ops y:=by intro x y h d hd;unfold hits at h;rw[hd] at h;simpa using h
 refine⟨List.mem_of_getElem? ha,List.mem_of_getElem? hb,(hs.plain a (List.mem_of_getElem? ha)).1,(hs.plain b (List.mem_of_getElem? hb)).1,(hs.ord i j a b hij ha hb).1,hit c1,hit c2,λhl=>?_,λhl=>?_⟩
 ·rw[hl] at c4;simpa using c4
 ·rw[hl] at c5;simpa using c5
theorem wpAny_of(hD:DOK P E)(hc:jw P E call){ops:Array Oper}(hs:Stat ops.toList){stf:St}{Q:Exit->Act->World->Prop} :
  ∀(fuel:Nat) (listed:Array Bool) (L:List (Oper×Nat)) {S:Nat->Prop} {φ:Nat->Option Nat} {st:St} {a:Act} {w:World},
   listed.size=ops.size->(∀i,i<ops.size->(listed.getD i true=false ↔ ∃o,(o,i)∈L))->(∀p∈L,ops.toList[p.2]? = some p.1)->L.Pairwise (λp q=>p.2<q.2) ->
   (∀(j:Nat) o,ops.toList[j]? = some o->(∀o',(o',j) ∉ L)->∀e∈o.after.toList,Region.binds .any e=true->∀o',(o',e.on) ∉ L)->Inv ops.toList L st->L.length<=fuel ->
   Rel E base S φ st a w->seqD E call ops.toList L st=some stf->(∀S' φ' a' w',Rel E base S' φ' stf a' w'->Grow base S S' w w'->Q .normal a' w')->wpAny P .any ops Q fuel listed a w:=by
 intro fuel;have noReady:∀{listed:Array Bool} {L:List (Oper×Nat)},L=[]->(∀i,i<ops.size->(listed.getD i true=false ↔ ∃o,(o,i)∈L))->Region.ready .any ops listed=[]:=by intro listed L hL h;rw[List.eq_nil_iff_forall_not_mem];intro i hi;obtain⟨h0,o,ho,_⟩:=mem_ready.1 hi;have hlt:i<ops.size:=(Array.getElem?_eq_some_iff.1 ho).1;obtain⟨o',hm⟩:=(h i hlt).1 h0;rw[hL] at hm;simp at hm
 induction fuel with
 | zero =>
  intro listed L S φ st a w _ hli _ _ _ _ hlen hR hseq hQ;have hL:L=[]:=List.eq_nil_of_length_eq_zero (by omega)
  refine⟨noReady hL hli,?_⟩;subst hL;simp only[seqD,Option.some.injEq] at hseq;subst hseq;exact hQ S φ a w hR Grow.refl
 | succ fuel ih =>
  intro listed L S φ st a w hsz hli hLo hsort hcl hI hlen hR hseq hQ;have getD2:∀{j:Nat},j<ops.size->(listed.getD j false=true ↔ ¬listed.getD j true=false):=λ{j} hj=>by
   have:j<listed.size:=by omega
   simp[this]
  refine⟨λhr=>?_,λi hi=>?_⟩
  ·
   cases L with
   | nil =>
    simp only[seqD,Option.some.injEq] at hseq;subst hseq;exact hQ S φ a w hR Grow.refl
   | cons p L =>
    obtain⟨o,i⟩:=p;have ho:ops.toList[i]? = some o:=hLo (o,i) List.mem_cons_self;have hlt:i<ops.size:=by simpa using(List.getElem?_eq_some_iff.1 ho).1
    have hmem:i∈Region.ready .any ops listed:=by
     refine mem_ready.2 ⟨(hli i hlt).2 ⟨o,List.mem_cons_self⟩,o,by simpa using ho,λe he hb=>?_⟩
     have hlt2:=Qb hs.back ho (by simpa using he) hb
     rw[getD2 (by omega),hli e.on (by omega)]
     rintro⟨o',hm⟩;rcases List.mem_cons.1 hm with hm | hm
     ·injection hm with _ hm;omega
     ·have:=(List.pairwise_cons.1 hsort).1 _ hm;simp at this;omega
    rw[hr] at hmem;cases hmem
  ·obtain⟨h0,o,hoi,hall⟩:=mem_ready.1 hi;have hlt:i<ops.size:=(Array.getElem?_eq_some_iff.1 hoi).1;have ho:ops.toList[i]? = some o:=by simpa using hoi
   obtain⟨o1,hm⟩:=(hli i hlt).1 h0;have:o1=o:=by
    have:=hLo _ hm;rw[ho] at this;injection this with this;exact this.symm
   subst this;obtain⟨L1,L2,rfl⟩:=List.append_of_mem hm;have hlt1:∀y∈L1,y.2<i:=λy hy=>(List.pairwise_append.1 hsort).2.2 y hy (o1,i) List.mem_cons_self
   have hgt2:∀y∈L2,i<y.2:=λy hy=>(List.pairwise_cons.1 (List.pairwise_append.1 hsort).2.1).1 y hy
   have hanc:∀k,((qP ops.toList []).getD i 0).testBit k=true->∀o',(o',k) ∉ L1++(o1,i) :: L2:=by
    intro k hk;refine anc_done hs.back (λk=>∀o',(o',k) ∉ L1++(o1,i) :: L2) (λj oj hoj hd e he hb=>hcl j oj hoj hd e he hb) i o1 ho (λe he hb=>?_) k hk
    have hlt2:=Qb hs.back ho he hb;have:=hall e (by simpa using he) hb
    intro o' hm';rw[getD2 (by omega)] at this
    exact this ((hli e.on (by omega)).2 ⟨o',hm'⟩)
   have hind:∀y∈L1,Indep ops.toList y (o1,i):=λy hy=>by
    have hyi:=hlt1 y hy;have hyo:=hLo y (by simp[hy])
    have hnot:((qP ops.toList []).getD i 0).testBit y.2=false:=by
     cases h:((qP ops.toList []).getD i 0).testBit y.2 with
     | false=>rfl
     | true=>exact absurd (by simp[hy]) (hanc y.2 h y.1)
    have hcls:clash ops.toList y.1 o1=false:=by
     rcases (hs.ord y.2 i y.1 o1 hyi hyo ho).2 with h | h
     ·exact h
     ·rw[hnot] at h;cases h
    have hn:i<ops.toList.length:=by simpa using hlt
    refine⟨?_,?_,clash_pair hs hyo ho hyi hcls⟩
    ·cases hp:pivot ops.toList y.2 with
     | false=>rfl
     | true =>
      unfold pivot at hp;have:=List.all_eq_true.1 hp i (List.mem_range.2 hn);simp only[Bool.or_eq_true,beq_iff_eq] at this;rcases this with e | this
      ·omega
      ·rw[if_neg (by omega),hnot] at this;cases this
    ·cases hp:pivot ops.toList i with
     | false=>rfl
     | true =>
      unfold pivot at hp;have:=List.all_eq_true.1 hp y.2 (List.mem_range.2 (by omega))
      simp only[Bool.or_eq_true,beq_iff_eq] at this;rcases this with e | this
      ·omega
      ·rw[if_pos hyi,hnot] at this;cases this
   have hb:=bubble (E:=E) (call:=call) hs L1 hLo hsort hI hind hseq;simp only[seqD] at hb;obtain⟨st1,h1,h2⟩:=bind_some hb;have hni:∀o',(o',i) ∉ L1++L2:=λo' hm'=>by
    rcases List.mem_append.1 hm' with hm' | hm'
    ·have:=hlt1 _ hm';simp at this
    ·have:=hgt2 _ hm';simp at this
   have hsub:∀p∈L1++L2,p∈L1++(o1,i) :: L2:=λp hp=>by
    rcases List.mem_append.1 hp with hp | hp
    ·exact List.mem_append_left _ hp
    ·exact List.mem_append_right _ (List.mem_cons_of_mem _ hp)
   have hI1:Inv ops.toList (L1++L2) st1:=hI.step hs hLo hsub (by simp) hni h1
   have next:∀{S1:Nat->Prop} {φ1:Nat->Option Nat} {a1:Act} {w1:World},Rel E base S1 φ1 st1 a1 w1->Grow base S S1 w w1->wpAny P .any ops Q fuel (listed.setIfInBounds i true) a1 w1:=by
    intro S1 φ1 a1 w1 hR1 hG1;refine ih (listed.setIfInBounds i true) (L1++L2) (by simpa using hsz) (λj hj=>?_) (λp hp=>hLo p (hsub p hp)) ?_ (λj oj hoj hd e he hbd o' hm'=>?_) hI1 (by simp at hlen ⊢;omega) hR1 h2 (λS' φ' a' w' k1 k2=>hQ S' φ' a' w' k1 (hG1.trans k2))
    ·by_cases e:i=j
     ·subst e;constructor
      ·intro h;rw[Array.getD_eq_getD_getElem?] at h;simp[show i<listed.size by omega] at h
      ·rintro⟨o',hm'⟩;exact absurd hm' (hni o')
     ·rw[getD_set_ne true e,hli j hj];constructor
      ·rintro⟨o',hm'⟩;refine⟨o',?_⟩;rcases List.mem_append.1 hm' with hm' | hm'
       ·exact List.mem_append_left _ hm'
       ·rcases List.mem_cons.1 hm' with hm' | hm'
        ·injection hm' with _ hm';exact absurd hm'.symm e
        ·exact List.mem_append_right _ hm'
      ·rintro⟨o',hm'⟩;exact⟨o',hsub _ hm'⟩
    ·refine List.Pairwise.sublist ?_ hsort;exact List.Sublist.append_left (List.sublist_cons_self _ _) _
    ·by_cases eji:j=i
     ·subst eji;rw[ho] at hoj;injection hoj with hoj;subst hoj
      have hlt2:=Qb hs.back ho he hbd;have:=hall e (by simpa using he) hbd
      rw[getD2 (by omega)] at this
      exact this ((hli e.on (by omega)).2 ⟨o',hsub _ hm'⟩)
     ·refine hcl j oj hoj (λo'' hm''=>?_) e he hbd o' (hsub _ hm')
      refine hd o'' ?_;rcases List.mem_append.1 hm'' with hm'' | hm''
      ·exact List.mem_append_left _ hm''
      ·rcases List.mem_cons.1 hm'' with hm'' | hm''
       ·injection hm'' with _ hm'';omega
       ·exact List.mem_append_right _ hm''
   unfold wpOp;simp only[hoi];have stepTo:(∃g,jn ops.toList o1 st.tm=some g/\((g=true/\YE E call o1 st=some st1)\/(g=false/\st1={ st with tm:=putT st.tm o1.dst (.d (.tup [])) }))):=by
    unfold Q2 at h1;cases hp:pivot ops.toList i with
    | true =>
     rw[hp] at h1;obtain⟨g,hg,h1⟩:=bind_some h1;cases g with
     | true=>exact⟨true,hg,.inl ⟨rfl,h1⟩⟩
     | false=>injection h1 with h1;exact⟨false,hg,.inr ⟨rfl,h1.symm⟩⟩
    | false =>
     rw[hp] at h1;simp only at h1;have hk:=hI.know hs (o:=o1) (i:=i) (by simp) ho hp
     cases hg:jn ops.toList o1 st.tm with
     | none=>unfold Y3 effG at h1;rw[hg] at h1;cases h1
     | some g =>
      cases g with
      | true=>exact⟨true,rfl,.inl ⟨rfl,stepN_S hg hk.free h1⟩⟩
      | false =>
       unfold Y3 effG at h1;rw[hg] at h1;simp only[zN,Option.isNone_none,Bool.true_or,zY,Option.some.injEq] at h1;exact⟨false,rfl,.inr ⟨rfl,h1.symm⟩⟩
   obtain⟨g,hg,hst⟩:=stepTo;have hw:=zBe hR.tm hg;rcases hst with ⟨rfl,hst⟩ | ⟨rfl,rfl⟩
   ·rw[hw];refine .inl (Oper.wp_mono (λa' w' hp=>?_) (step_sound hD hc hR hst))
    obtain⟨S1,φ1,hR1,hG1⟩:=hp;exact next hR1 hG1
   ·rw[hw];exact next (hR.skip o1.dst) Grow.refl
theorem runRegion_sound(hD:DOK P E)(hm:P.follows .mixedOrders=true)(hc:jw P E call){id:Nat}{ops:Array Oper}{draw:Bool}{K:St->Option CR}{r:CR}{Q:Exit->Act->World->Prop}(h:JU E call ops.toList draw st K=some r)
  (hR:Rel E base S φ st a w) (hK:∀st' S' φ' a' w',K st'=some r->Rel E base S' φ' st' a' w'->Grow base S S' w w'->Q .normal a' w'):(Code.region id ops draw).wp P Q a w:=by
 cases draw with
 | false =>
  refine wp_region ?_;have:=Yo hD hc (Q:=Q) ops.toList 0 (by simp) (Nat.zero_le _) h hR hK
  rw[List.range_eq_range'];simpa using this
 | true =>
  refine wp_region_any hm ?_;simp only[JU] at h;obtain⟨hok,h⟩:=zJ h;have hs:=stat_of hok;obtain⟨stf,hseq,hKf⟩:=zAL ops.toList.zipIdx _ h;obtain⟨hRd,hGd⟩:=hR.drew;obtain⟨φ1,hR1⟩:=hRd.clearL (anews ops.toList);have hz:∀p∈ops.toList.zipIdx,ops.toList[p.2]? = some p.1:=λp hp=>by obtain⟨k,hk⟩:=List.mem_iff_getElem?.1 hp;simp only[List.getElem?_zipIdx,Option.map_eq_some_iff] at hk;obtain⟨x,hx,e⟩:=hk;subst e;simpa using hx
  refine wpAny_of (Q:=Q) hD hc hs ops.size (Array.replicate ops.size false) ops.toList.zipIdx (by simp) (λi hi=>?_) hz ?_ (λj o ho hd=>?_) (Inv.start _ _ st) (by simp) hR1 hseq (λS' φ' a' w' k1 k2=>hK stf S' φ' a' w' hKf k1 (hGd.trans k2))
  ·constructor
   ·intro _;exact⟨ops[i],by rw[List.mem_iff_getElem?];exact⟨i,by simp[List.getElem?_zipIdx,hi]⟩⟩
   ·intro _;simp[hi]
  ·rw[List.pairwise_iff_getElem];intro i j hi hj hij;simp;exact hij
  ·exact absurd (by rw[List.mem_iff_getElem?];exact⟨j,by simp only[List.getElem?_zipIdx,ho];simp⟩) (hd o)
end
end Go.Am
namespace Go.Am
open Go.Proofs
open Go Go.RowKit
def zAn:Ex->Exit
 | .normal=>.normal
 | .exit id=>.exit id
 | .ret=>.ret
section
variable{P:Program}{E:Env}{call:FuncId->List DV->Option CR}{base:Nat}
theorem J2(hD:DOK P E)(hm:P.follows .mixedOrders=true)(hc:jw P E call){n:Nat}{r:CR}:∀(c:Code) {K:Ex->St->Option CR} {S:Nat->Prop} {φ:Nat->Option Nat} {st:St} {a:Act} {w:World} {Q:Exit->Act->World->Prop},
  exec E n call c st K=some r->Rel E base S φ st a w->(∀ex st' S' φ' a' w',K ex st'=some r->Rel E base S' φ' st' a' w'->Grow base S S' w w'->Q (zAn ex) a' w')->c.wp P Q a w:=by
 intro c;induction c with
 | skip=>intro K S φ st a w Q h hR hK;exact wp_skip (hK .normal st S φ a w h hR Grow.refl)
 | label l=>intro K S φ st a w Q h hR hK;exact wp_label (hK .normal st S φ a w h hR Grow.refl)
 | region id ops draw=>intro K S φ st a w Q h hR hK;exact runRegion_sound hD hm hc h hR λst' S' φ' a' w' k1 k2 k3=>hK .normal st' S' φ' a' w' k1 k2 k3
 | seq x y ihx ihy =>
  intro K S φ st a w Q h hR hK;refine wp_seq (ihx (K:=qm (λst'=>exec E n call y st' K) K) h hR λex st' S' φ' a' w' k1 k2 k3=>?_)
  cases ex with
  | normal=>exact ihy k1 k2 λex st2 S2 φ2 a2 w2 j1 j2 j3=>hK ex st2 S2 φ2 a2 w2 j1 j2 (k3.trans j3)
  | exit id=>exact hK (.exit id) st' S' φ' a' w' k1 k2 k3
  | ret=>exact hK .ret st' S' φ' a' w' k1 k2 k3
 | cond c x y ihx ihy =>
  intro K S φ st a w Q h hR hK;simp only[exec] at h;obtain⟨v,hv,h⟩:=bind_some h;obtain⟨t,ht,h⟩:=bind_some h;have hc:=asB_pick ht (hR.ev c v hv);cases t with
  | true=>exact wp_cond_true hc (ihx h hR hK)
  | false=>exact wp_cond_false hc (ihy h hR hK)
 | block id c ih =>
  intro K S φ st a w Q h hR hK;refine wp_block (ih (K:=QW id K) h hR λex st' S' φ' a' w' k1 k2 k3=>?_)
  cases ex with
  | normal=>exact hK .normal st' S' φ' a' w' k1 k2 k3
  | ret=>exact hK .ret st' S' φ' a' w' k1 k2 k3
  | exit i =>
   simp only[QW] at k1;simp only[zAn,Exit.inBlock];split at k1
   ·rename_i e;rw[if_pos e];exact hK .normal st' S' φ' a' w' k1 k2 k3
   ·rename_i e;rw[if_neg e];exact hK (.exit i) st' S' φ' a' w' k1 k2 k3
 | scope c ih =>
  intro K S φ st a w Q h hR hK;refine wp_scope_straight (ih h hR λex st' S' φ' a' w' k1 k2 k3=>?_)
  cases ex with
  | normal=>exact hK .normal st' S' φ' a' w' k1 k2 k3
  | ret=>exact hK .ret st' S' φ' a' w' k1 k2 k3
  | exit i=>exact hK (.exit i) st' S' φ' a' w' k1 k2 k3
 | loop c ih =>
  intro K S φ st a w Q h hR hK;refine wp_loop_rounds n ?_;have key:∀(m:Nat) {S:Nat->Prop} {φ:Nat->Option Nat} {st:St} {a:Act} {w:World},Qo (exec E n call c) m st K=some r->Rel E base S φ st a w ->
    (∀ex st' S' φ' a' w',K ex st'=some r->Rel E base S' φ' st' a' w'->Grow base S S' w w'->Q (zAn ex) a' w')->Code.rounds P c Q m a w:=by
   intro m;induction m with
   | zero=>intro S φ st a w h _ _;simp[Qo] at h
   | succ m ihm =>
    intro S φ st a w h hR hK;simp only[Qo] at h;refine ih (K:=qm (λst'=>Qo (exec E n call c) m st' K) K) h hR λex st' S' φ' a' w' k1 k2 k3=>?_
    cases ex with
    | normal=>exact ihm k1 k2 λex st2 S2 φ2 a2 w2 j1 j2 j3=>hK ex st2 S2 φ2 a2 w2 j1 j2 (k3.trans j3)
    | exit id=>exact hK (.exit id) st' S' φ' a' w' k1 k2 k3
    | ret=>exact hK .ret st' S' φ' a' w' k1 k2 k3
  exact key n h hR hK
 | exit id=>intro K S φ st a w Q h hR hK;exact wp_exit (hK (.exit id) st S φ a w h hR Grow.refl)
 | ret=>intro K S φ st a w Q h hR hK;exact wp_ret (hK .ret st S φ a w h hR Grow.refl)
 | _=>intros;rename_i h _ _;simp[exec] at h
theorem retV1_sound(hD:DOK P E){S:Nat->Prop}{φ:Nat->Option Nat}{st:St}{a:Act}{w:World}(hR:Rel E base S φ st a w){v:ResultVar}{x:AV}(h:retV1 E st v=some x) :
  ∃u,(match v with | .tmp t=>pure (a.tmps.getD t undef) | .cell b t=>do loadVar t (<-asAddr (a.tmps.getD b undef)):Sem Value).run P w=.ok u w/\RAV E.L S φ w x u:=by
 cases v with
 | tmp t =>
  obtain⟨u,hu,hr⟩:=hR.tm t x h;exact⟨u,by simp[hu],hr⟩
 | cell b t =>
  simp only[retV1] at h;obtain⟨p,hp,h⟩:=bind_some h;obtain⟨ef,he,h⟩:=bind_some h;injection h with h
  obtain⟨u,hu,hr⟩:=hR.tm b p hp;obtain⟨y,z,rfl,hz,hyz⟩:=qL hD hR hr he;subst h;refine⟨z,?_,hyz⟩;have e:a.tmps.getD b undef=u:=by simp[hu]
  simp only[e];cases u with
  | pointer q =>
   cases q with
   | none=>simp[Instr.loadAt,Instr.sureAddr] at hz
   | some q =>
    simp only[Instr.loadAt,Instr.sureAddr,Sem.run_bind,Sem.run_pure,Result.andThen_ok] at hz;simp only[asAddr,Sem.run_bind,Sem.run_pure,Result.andThen_ok,hz]
  | _=>simp[Instr.loadAt,Instr.sureAddr] at hz
theorem retVs_sound(hD:DOK P E){S:Nat->Prop}{φ:Nat->Option Nat}{st:St}{a:Act}{w:World}(hR:Rel E base S φ st a w):∀(rs:List ResultVar) (xs:List AV),retVs E st rs=some xs ->
  ∃us:List Value,(rs.mapM λv=>(match v with | .tmp t=>pure (a.tmps.getD t undef) | .cell b t=>do loadVar t (<-asAddr (a.tmps.getD b undef)):Sem Value)).run P w=.ok us w/\ListOK E.L S φ w xs us
 | [],xs,h=>by
  simp[retVs] at h;subst h;exact⟨[],rfl,rfl,λi a=>by simp at a⟩
 | v :: rs,xs,h=>by
  simp only[retVs] at h;obtain⟨x,hx,h⟩:=bind_some h;obtain⟨ys,hys,h⟩:=bind_some h;injection h with h;subst h
  obtain⟨u,hu,hr⟩:=retV1_sound hD hR hx;obtain⟨us,hus,hl⟩:=retVs_sound hD hR rs ys hys;refine⟨u :: us,?_,by simp[hl.1],λi a b=>?_⟩
  ·rw[List.mapM_cons,Sem.run_bind,hu,Result.andThen_ok,Sem.run_bind,hus,Result.andThen_ok];rfl
  ·cases i with
   | zero=>exact hr
   | succ i=>exact hl.2 i (by simpa using a) (by simpa using b)
end
end Go.Am
namespace Go.Am
open Go.Proofs
open Go Go.RowKit
section
variable{P:Program}{E:Env}{base:Nat}
theorem noTup_get:∀{xs:List DV},noTup xs=true->∀i (h:i<xs.length),xs[i].isTup=false
 | [],_,i,h=>by simp at h
 | x :: xs,hn,i,h=>by
  simp only[noTup,Bool.and_eq_true,Bool.not_eq_true'] at hn;cases i with
  | zero=>exact hn.1
  | succ i=>exact noTup_get hn.2 i (by simpa using h)
theorem run_results{fn:Func}{a:Act}{w:World}{us:List Value}
  (h:(fn.results.toList.mapM λv=>(match v with | .tmp t=>pure (a.tmps.getD t undef) | .cell b t=>do loadVar t (<-asAddr (a.tmps.getD b undef)):Sem Value)).run P w=.ok us w) :
  (results fn a.tmps).run P w=.ok (match us with | [u]=>u | us=>.tuple us.toArray) w:=by
 have e:results fn a.tmps=(do
   let vs <-fn.results.mapM (λv=>(match v with | .tmp t=>pure (a.tmps.getD t undef) | .cell b t=>do loadVar t (<-asAddr (a.tmps.getD b undef)):Sem Value))
   pure (if h:vs.size=1 then vs[0] else .tuple vs):Sem Value):=rfl
 rw[e,Sem.run_bind,Array.mapM_eq_mapM_toList];simp only[Sem.run_map,h,Result.andThen_ok,Sem.run_pure]
 match us with
 | []=>rfl
 | [u]=>rfl
 | _ :: _ :: _=>simp
theorem plus_res{S S':Nat->Prop}{φ:Nat->Option Nat}{st:St}{a:Act}{w w':World}(hR:Rel E w.heap.size S' φ st a w')(hG:Grow w.heap.size S S' w w')(ss:List Nat) :
  (∀b,S b->Plus S' φ st.hp ss b)/\(∀b,Plus S' φ st.hp ss b->S b\/w.heap.size<=b)/\(∀b,Plus S' φ st.hp ss b->b<w'.heap.size):=by
 refine⟨λb hb=>.inl (hG.sub b hb),λb hb=>?_,λb hb=>?_⟩
 ·rcases hb with hb | ⟨s,_,ob,hob,hφ⟩
  ·exact hG.new b hb
  ·obtain⟨c,hc,h1,_⟩:=hR.blk s ob hob;rw[hφ] at hc;injection hc with hc;subst hc
   exact .inr h1
 ·rcases hb with hb | ⟨s,_,ob,hob,hφ⟩
  ·exact hR.lt b hb
  ·obtain⟨c,hc,_,h2,_⟩:=hR.blk s ob hob;rw[hφ] at hc;injection hc with hc;subst hc
   exact h2.lt
theorem Jt(hD:DOK P E){S S':Nat->Prop}{φ:Nat->Option Nat}{st:St}{a:Act}{w w':World}(hR:Rel E w.heap.size S' φ st a w')(hG:Grow w.heap.size S S' w w'){fresh:Bool}{fn:Func}{r:CR}(h:fin E fresh fn st=some r) :
  a.defers=[]/\∃v,(results fn a.tmps).run P w'=.ok v w'/\zAA E S w r v w':=by
 refine⟨hR.dfr,?_⟩;unfold fin at h;obtain⟨xs,hxs,h⟩:=bind_some h;obtain⟨us,hus,hl⟩:=retVs_sound hD hR _ _ hxs;have hrun:=run_results hus;have many:∀{ds:List DV},JY st.hp xs=some ds->noTup ds=true->zAA E S w (.val (.tup ds)) (.tuple us.toArray) w':=by
  intro ds hds hnt;obtain⟨h1,h2⟩:=zAI hR xs us ds hds hl;obtain⟨p1,p2,p3⟩:=plus_res hR hG (jb st.hp xs);refine⟨_,hG.below,p1,p2,p3,us,rfl,by rw[hl.1,h1],λi a b=>?_⟩
  exact RV.rd (noTup_get hnt i a) (h2 i a b)
 split at h
 ·rename_i v;obtain⟨u,rfl⟩:∃u,us=[u]:=List.length_eq_one_iff.1 (by simpa using hl.1)
  have hv:=hl.2 0 (by simp) (by simp)
  simp only[List.getElem_cons_zero] at hv;refine⟨u,hrun,?_⟩;cases fresh with
  | false =>
   simp only at h;obtain⟨x,hx,h⟩:=bind_some h;obtain⟨hnt,h⟩:=zJ h;injection h with h;subst h
   obtain⟨p1,p2,p3⟩:=plus_res hR hG (sites st.hp zx v);exact⟨_,hG.below,p1,p2,p3,snapV hR hx hv⟩
  | true =>
   simp only at h;unfold Q7 at h;split at h
   ·injection h with h;subst h
    obtain⟨p1,p2,p3⟩:=plus_res hR hG [];exact⟨_,hG.below,p1,p2,p3,RV.mono (show RV E.L S' w' .nl u from hv) (λb hb=>.inl hb) λ_ _=>rfl⟩
   ·rename_i b off len sz;split at h
    case h_2=>simp at h
    rename_i s ys hsl;split at h
    case isFalse=>simp at h
    rename_i hcond;obtain⟨rfl,rfl,rfl⟩:=hcond;injection h with h;subst h
    obtain⟨cb,hφ,hb,hrb,hfz⟩:=hR.blk b _ hsl;refine⟨S',hG.below,hG.sub,hG.new,hR.lt,cb,hb,λhh=>by simpa using hfz.1 hh,λφ'=>hrb,λφ' s' hs'=>?_⟩
    rcases RAV.own hv with ⟨cb',c,hφ',hc,hroom,rfl⟩ | ⟨a',h0,rfl⟩
    ·have e:cb=cb':=Option.some.inj (hφ.symm.trans hφ');subst e;refine⟨?_,rfl⟩;have:=RA.own (L:=E.L) (S:=S') (φ:=φ') (w:=w') s' 0 ys.length s cb c hs' hc hroom;simpa[vcs,Value.cells] using this
    ·refine⟨?_,rfl⟩;rw[h0];exact .own0 s' 0 s a'
   ·simp at h
 ·rename_i vs hne;obtain⟨ds,hds,h⟩:=bind_some h;obtain⟨hg,h⟩:=zJ h;simp only[Bool.and_eq_true] at hg;injection h with h;subst h
  refine⟨.tuple us.toArray,?_,many hds hg.2⟩;rw[hrun]
  match us,hl.1 with
  | [],_=>rfl
  | [u],hlen =>
   exfalso;obtain⟨x,rfl⟩:∃x,xs=[x]:=List.length_eq_one_iff.1 (by simpa using hlen.symm)
   exact hne x rfl
  | _ :: _ :: _,_=>rfl
theorem entry_tm{S:Nat->Prop}{w:World}{φ:Nat->Option Nat}{fn:Func}{ds:List DV}{vals:List Value}(hlen:vals.length=ds.length)(hrv:∀i (h:i<ds.length) (h':i<vals.length),RV E.L S w ds[i] vals[i])(hn:ds.length<=fn.ntmps)
  (t:Nat) (v:AV) (hv:(entry fn ds).tm[t]? = some v):∃u,(vals.toArray++Array.replicate (fn.ntmps - vals.toArray.size) undef)[t]? = some u/\RAV E.L S φ w v u:=by
 simp only[entry] at hv;by_cases ht:t<ds.length
 ·rw[List.getElem?_append_left (by simpa using ht)] at hv
  simp only[List.getElem?_map,List.getElem?_eq_getElem ht,Option.map_some,Option.some.injEq] at hv;subst hv;refine⟨vals[t]'(by omega),?_,hrv t ht (by omega)⟩
  rw[Array.getElem?_append_left (by simp;omega)]
  simp[show t<vals.length by omega]
 ·rw[List.getElem?_append_right (by simp;omega)] at hv
  simp only[List.length_map,List.getElem?_replicate] at hv;split at hv
  ·injection hv with hv;subst hv
   refine⟨undef,?_,trivial⟩;rw[Array.getElem?_append_right (by simp;omega)]
   simp[Array.getElem?_replicate];omega
  ·cases hv
structure EnvOK(P:Program)(E:Env):Prop where
 D:DOK P E
 mixed:P.follows .mixedOrders=true
 F:∀f fn,E.F f=some fn->P.funcs[f]? = some fn/\(fn.name == "runtime.NumGoroutine")=false
 orc:∀f g,E.orc f=some g->jw P E λf' ds=>if f'=f then g ds else none
end
end Go.Am
namespace Go.Am
open Go.Proofs
open Go Go.RowKit
mutual
def zrd(L:Nat->List Nat):DV->List Value->Bool
 | .bool b,cs=>match cs with | [.bool c]=>b == c | _=>false
 | .int k n,cs=>match cs with | [.int j m]=>k == j && n == m | _=>false
 | .flt k n,cs=>match cs with | [.float j m]=>k == j && n == m | _=>false
 | .cpx k x y,cs=>match cs with | [.complex j u v]=>k == j && x == u && y == v | _=>false
 | .str s,cs=>match cs with | [.string t]=>s.size == 0 && t.size == 0 | _=>false
 | .nl,cs=>match cs with | [.slice none 0 0]=>true | _=>false
 | .nilFn,cs=>match cs with | [.nilFunc]=>true | _=>false
 | .nilPtr,cs=>match cs with | [.pointer none]=>true | _=>false
 | .nilMp,cs=>match cs with | [.map none]=>true | _=>false
 | .nilIf,cs=>match cs with | [.nilIface]=>true | _=>false
 | .agg tag fs,cs=>zrdL L (L tag) fs cs
 | _,_=>false
def zrdL(L:Nat->List Nat):List Nat->List DV->List Value->Bool
 | [],[],[]=>true
 | n :: ns,x :: xs,cs=>decide (n<=cs.length) && zrd L x (cs.take n) && zrdL L ns xs (cs.drop n)
 | _,_,_=>false
end
section
variable{L:Nat->List Nat}
theorem byte_empty{s t:ByteArray}(h:s.size=0)(k:t.size=0):s=t:=by obtain⟨x⟩:=s;obtain⟨y⟩:=t;have hx:x=#[]:=Array.eq_empty_of_size_eq_zero h;have hy:y=#[]:=Array.eq_empty_of_size_eq_zero k;rw[hx,hy]
mutual
theorem zrd_sound:∀(x:DV) (cs:List Value),zrd L x cs=true->∀S w,RD L S w x cs
 | .bool b,cs,h,S,w=>by simp only[zrd] at h;split at h <;> simp at h;subst h;exact .bool _
 | .int k n,cs,h,S,w=>by
  simp only[zrd] at h;split at h
  ·simp only[Bool.and_eq_true,beq_iff_eq] at h;rw[h.1,h.2];exact .int _ _
  ·simp at h
 | .flt k n,cs,h,S,w=>by
  simp only[zrd] at h;split at h
  ·simp only[Bool.and_eq_true,beq_iff_eq] at h;rw[h.1,h.2];exact .flt _ _
  ·simp at h
 | .cpx k a b,cs,h,S,w=>by
  simp only[zrd] at h;split at h
  ·simp only[Bool.and_eq_true,beq_iff_eq] at h;rw[h.1.1,h.1.2,h.2];exact .cpx _ _ _
  ·simp at h
 | .str s,cs,h,S,w=>by
  simp only[zrd] at h;split at h
  ·simp only[Bool.and_eq_true,beq_iff_eq] at h;rw[byte_empty h.1 h.2];exact .str _
  ·simp at h
 | .nl,cs,h,S,w=>by simp only[zrd] at h;split at h <;> simp at h;exact .nl _
 | .nilFn,cs,h,S,w=>by simp only[zrd] at h;split at h <;> simp at h;exact .nilFn
 | .nilPtr,cs,h,S,w=>by simp only[zrd] at h;split at h <;> simp at h;exact .nilPtr
 | .nilMp,cs,h,S,w=>by simp only[zrd] at h;split at h <;> simp at h;exact .nilMp
 | .nilIf,cs,h,S,w=>by simp only[zrd] at h;split at h <;> simp at h;exact .nilIf
 | .agg tag fs,cs,h,S,w=>by
  simp only[zrd] at h;obtain⟨css,h1,h2,h3,h4⟩:=zrdL_sound (L tag) fs cs h S w;rw[h1];exact .agg tag fs css h2 h3 h4
 | .sl _ _,cs,h,S,w=>by simp[zrd] at h
 | .fn _ _ _,cs,h,S,w=>by simp[zrd] at h
 | .dp _,cs,h,S,w=>by simp[zrd] at h
 | .mp _ _,cs,h,S,w=>by simp[zrd] at h
 | .ifc _ _,cs,h,S,w=>by simp[zrd] at h
 | .tup _,cs,h,S,w=>by simp[zrd] at h
theorem zrdL_sound:∀(ns:List Nat) (fs:List DV) (cs:List Value),zrdL L ns fs cs=true->∀S w,
  ∃css:List (List Value),cs=css.flatten/\css.length=fs.length/\(∀i (h:i<fs.length) (h':i<css.length),RD L S w fs[i] css[i])/\css.map (·.length)=ns
 | [],[],[],_,S,w=>⟨[],rfl,rfl,λi h=>by simp at h,rfl⟩
 | n :: ns,x :: xs,cs,h,S,w=>by
  simp only[zrdL,Bool.and_eq_true,decide_eq_true_eq] at h;obtain⟨css,h1,h2,h3,h4⟩:=zrdL_sound ns xs (cs.drop n) h.2 S w;refine⟨cs.take n :: css,by rw[List.flatten_cons,<-h1,List.take_append_drop],by simp[h2],λi a b=>?_,by simp[h4,h.1.1]⟩
  cases i with
  | zero=>exact zrd_sound x (cs.take n) h.1.2 S w
  | succ i=>exact h3 i (by simpa using a) (by simpa using b)
 | [],[],_ :: _,h,S,w=>by simp[zrdL] at h
 | [],_ :: _,_,h,S,w=>by simp[zrdL] at h
 | _ :: _,[],_,h,S,w=>by simp[zrdL] at h
end
def YV(P:Program)(L:Nat->List Nat)(FL:TypeId->List TypeId)(t:TypeId):TK->Bool
 | .int k=>match P.underlying t with | some (.int j)=>j == k | _=>false
 | .bool=>match P.underlying t with | some .bool=>true | _=>false
 | .str=>match P.underlying t with | some .string=>true | _=>false
 | .flt k=>match P.underlying t with | some (.float j)=>j == k | _=>false
 | .cpx k=>match P.underlying t with | some (.complex j)=>j == k | _=>false
 | .ptr e=>match P.underlying t with | some (.pointer f)=>f == e | _=>false
 | .slice e=>match P.underlying t with | some (.slice f)=>f == e | _=>false
 | .map k e=>match P.underlying t with | some (.map j f)=>j == k && f == e | _=>false
 | .func=>match P.underlying t with | some (.func _ _ _)=>true | _=>false
 | .iface=>match P.underlying t with | some (.interface _)=>true | _=>false
 | .struct tag=>match P.underlying t with
  | some (.struct fs)=>fs.toList.map (·.type) == FL t && fs.size == (L tag).length && (List.range fs.size).all λi=>match fs[i]? with
   | some f=>f.offset == ((L tag).take i).sum && match P.info? f.type with
    | some j=>(L tag)[i]? == some j.size && j.size != 0
    | none=>false
   | none=>true
  | _=>false
 | .array tag n e=>match P.underlying t with
  | some (.array m f)=>m == n && f == e && match P.info? e with
   | some j=>L tag == List.replicate n j.size
   | none=>false
  | _=>false
theorem chkDsc_sound{P:Program}{FL:TypeId->List TypeId}{t:TypeId}{k:TK}(h:YV P L FL t k=true):Dsc P L FL t k:=by
 cases k with
 | int k =>
  simp only[YV] at h;split at h
  ·rename_i j hu;simp only[beq_iff_eq] at h;subst h;exact hu
  ·simp at h
 | flt k =>
  simp only[YV] at h;split at h
  ·rename_i j hu;simp only[beq_iff_eq] at h;subst h;exact hu
  ·simp at h
 | cpx k =>
  simp only[YV] at h;split at h
  ·rename_i j hu;simp only[beq_iff_eq] at h;subst h;exact hu
  ·simp at h
 | bool =>
  simp only[YV] at h;split at h
  ·rename_i hu;exact hu
  ·simp at h
 | str =>
  simp only[YV] at h;split at h
  ·rename_i hu;exact hu
  ·simp at h
 | ptr e =>
  simp only[YV] at h;split at h
  ·rename_i j hu;simp only[beq_iff_eq] at h;subst h;exact hu
  ·simp at h
 | slice e =>
  simp only[YV] at h;split at h
  ·rename_i j hu;simp only[beq_iff_eq] at h;subst h;exact hu
  ·simp at h
 | map k e =>
  simp only[YV] at h;split at h
  ·rename_i j f hu;simp only[Bool.and_eq_true,beq_iff_eq] at h;obtain⟨h1,h2⟩:=h;subst h1;subst h2;exact hu
  ·simp at h
 | func =>
  simp only[YV] at h;split at h
  ·rename_i hu;exact⟨_,_,_,hu⟩
  ·simp at h
 | iface =>
  simp only[YV] at h;split at h
  ·rename_i hu;exact⟨_,hu⟩
  ·simp at h
 | struct tag =>
  simp only[YV] at h;split at h
  case h_2=>simp at h
  rename_i fs hu;simp only[Bool.and_eq_true,beq_iff_eq] at h;obtain⟨⟨h1,h2⟩,h3⟩:=h;refine⟨fs,hu,h1,h2,λi f hf=>?_⟩
  have hi:i<fs.size:=(Array.getElem?_eq_some_iff.1 hf).1;have h4:=List.all_eq_true.1 h3 i (List.mem_range.2 hi);rw[hf] at h4;simp only[Bool.and_eq_true,beq_iff_eq] at h4;refine⟨h4.1,?_⟩;have h5:=h4.2;split at h5
  ·rename_i j hj;simp only[Bool.and_eq_true,beq_iff_eq,bne_iff_ne,ne_eq] at h5;exact⟨j,hj,h5.1,h5.2⟩
  ·cases h5
 | array tag n e =>
  simp only[YV] at h;split at h
  case h_2=>simp at h
  rename_i m f hu;simp only[Bool.and_eq_true,beq_iff_eq] at h;obtain⟨⟨h1,h2⟩,h3⟩:=h;subst h1;subst h2;refine⟨hu,?_⟩;split at h3
  ·rename_i j hj;exact⟨j,hj,by simpa using h3⟩
  ·cases h3
def chkTD(P:Program)(E:Env)(t:TypeId)(d:TD):Bool :=
 (match P.info? t with
  | some i=>i.size == d.size && i.bytes == d.bytes && (match i.zero with | some z=>zrd E.L d.zero z.cells.toList && (aggV z == d.zero.isAgg) | none=>false)
  | none=>false) &&
 YV P E.L E.flds t d.k && (match d.k with | .struct tag=>d.size == (E.L tag).sum | .array tag _ _=>d.size == (E.L tag).sum | _=>d.size == 1) &&
 !d.zero.isTup && fits d (.d d.zero) &&
 (!d.eqOK || (!P.eqGuardType P.depth t && !P.stoodInHeld t && (match d.k with | .struct _=>(P.fieldsOf t).toList.all λf=>f.name != "_" | _=>true)))
theorem chkTD_sound{P:Program}{E:Env}{t:TypeId}{d:TD}(h:chkTD P E t d=true):TOK P E t d:=by
 unfold chkTD at h;simp only[Bool.and_eq_true] at h;obtain⟨⟨⟨⟨⟨h1,h2⟩,h3⟩,h4⟩,h5⟩,h6⟩:=h;simp only[Bool.not_eq_true'] at h4;refine⟨?_,chkDsc_sound h2,?_,h4,h5,λhe=>?_⟩
 ·split at h1
  ·rename_i i hi;simp only[Bool.and_eq_true,beq_iff_eq] at h1;obtain⟨⟨a1,a2⟩,a3⟩:=h1;split at a3
   ·rename_i z hz;simp only[Bool.and_eq_true,beq_iff_eq] at a3;exact⟨i,z,hi,a1,a2,hz,λS w=>RV.of h4 (zrd_sound d.zero _ a3.1 S w) a3.2⟩
   ·cases a3
  ·cases h1
 ·cases hk:d.k <;> rw[hk] at h3 <;> simpa using h3
 ·rw[he] at h6;simp only[Bool.not_true,Bool.false_or,Bool.and_eq_true,Bool.not_eq_true'] at h6;refine⟨h6.1.1,h6.1.2,?_⟩;have h7:=h6.2;cases hk:d.k <;> rw[hk] at h7 <;> try trivial
  intro f hf;have:=List.all_eq_true.1 h7 f (by simpa using hf)
  simpa using this
end
end Go.Am
namespace Go.Am
open Go.Proofs
open Go Go.RowKit
def DT(E:Env):Nat->TypeId->DV->Prop
 | 0,_,_=>False
 | n+1,t,x=>match E.D t with
  | none=>False
  | some td=>match td.k with
   | .int k=>∃m,x=.int k m/\k.min<=m/\m<=k.max
   | .bool=>∃b,x=.bool b
   | .flt k=>∃b,x=.flt k b/\(Lit.float k b).wf=true
   | .str=>∃s,x=.str s
   | .slice e=>∃(ed:TD) (xs:List DV),E.D e=some ed/\x=.sl ed.size xs/\∀y∈xs,DT E n e y
   | .struct tag=>∃xs:List DV,x=.agg tag xs/\xs.length=(E.flds t).length/\∀(i:Nat) (u:TypeId) (y:DV),(E.flds t)[i]? = some u->xs[i]? = some y->DT E n u y
   | .array tag m e=>∃xs:List DV,x=.agg tag xs/\xs.length=m/\∀y∈xs,DT E n e y
   | _=>False
def slicy(E:Env):Nat->TypeId->Bool
 | 0,_=>true
 | n+1,t=>match E.D t with
  | none=>true
  | some td=>match td.k with
   | .slice _=>true
   | .struct _=>(E.flds t).any (slicy E n)
   | .array _ _ e=>slicy E n e
   | _=>false
def okTy(E:Env)(nest:Bool):Nat->TypeId->Bool
 | 0,_=>false
 | n+1,t=>match E.D t with
  | none=>false
  | some td=>match td.k with
   | .int _ | .bool | .flt _ | .str=>true
   | .slice e=>(match E.D e with | some ed=>decide (0<ed.size) | none=>false) && okTy E nest n e && (nest || !slicy E n e)
   | .struct _=>(E.flds t).all (okTy E nest n)
   | .array _ _ e=>(E.D e).isSome && okTy E nest n e
   | _=>false
def spotV:Value->Prop
 | .slice (some a) _ _=>a.spot=none
 | _=>True
theorem J6{α:Type}{Q:Nat->α->Prop}:∀n:Nat,(∀i,i<n->∃x,Q i x)->∃xs:List α,xs.length=n/\∀i (h:i<xs.length),Q i xs[i]
 | 0,_=>⟨[],rfl,λi h=>by simp at h⟩
 | n+1,h=>by
  obtain⟨xs,h1,h2⟩:=J6 (Q:=Q) n λi hi=>h i (by omega)
  obtain⟨x,hx⟩:=h n (by omega)
  refine⟨xs++[x],by simp[h1],λi hi=>?_⟩
  by_cases hi':i<xs.length
  ·rw[List.getElem_append_left hi'];exact h2 i hi'
  ·have:i=n:=by simp at hi;omega
   subst this;rw[List.getElem_append_right (by omega)]
   simpa[h1] using hx
def cutL{α:Type}:List Nat->List α->List (List α)
 | [],_=>[]
 | n :: ns,cs=>cs.take n :: cutL ns (cs.drop n)
theorem cutL_len{α:Type}:∀(ns:List Nat) (cs:List α),(cutL ns cs).length=ns.length
 | [],_=>rfl
 | n :: ns,cs=>by simp[cutL,cutL_len ns]
theorem Qc{α:Type}:∀(ns:List Nat) (cs:List α),cs.length=ns.sum->(cutL ns cs).flatten=cs
 | [],cs,h=>by simp at h;subst h;rfl
 | n :: ns,cs,h=>by simp only[cutL,List.flatten_cons];rw[Qc ns (cs.drop n) (by simp at h ⊢;omega),List.take_append_drop]
theorem cutL_lens{α:Type}:∀(ns:List Nat) (cs:List α),cs.length=ns.sum->(cutL ns cs).map (·.length)=ns
 | [],cs,_=>rfl
 | n :: ns,cs,h=>by
  simp only[cutL,List.map_cons,List.length_take];rw[cutL_lens ns (cs.drop n) (by simp at h ⊢;omega)]
  congr 1;simp at h;omega
theorem cutL_get{α:Type}:∀(ns:List Nat) (cs:List α) (i:Nat) (h:i<(cutL ns cs).length),(cutL ns cs)[i]=(cs.drop (ns.take i).sum).take (ns[i]'(by rw[cutL_len] at h;exact h))
 | [],cs,i,h=>by simp[cutL] at h
 | n :: ns,cs,0,h=>by simp[cutL]
 | n :: ns,cs,i+1,h=>by
  simp only[cutL,List.getElem_cons_succ];rw[cutL_get ns (cs.drop n) i (by simpa[cutL] using h)]
  simp[List.drop_drop,Nat.add_comm]
section
variable{P:Program}{E:Env}{w:World}{base:Nat}{spare:Nat->Bool}{held:Bool}{H:Type}{enc:TypeId×Value->H}
theorem cellsOf_D(hD:DOK P E){t:TypeId}{td:TD}(h:E.D t=some td):P.cellsOf t=td.size:=by obtain⟨i,z,hi,hs,_⟩:=(hD t td h).info;unfold Program.cellsOf;rw[hi];exact hs
theorem cell_lt{a:Addr}{u:Value}(h:w.cell? a=some u):a.block<w.heap.size:=by
 unfold World.cell? at h;cases ho:w.heap[a.block]? with
 | none=>rw[ho] at h;simp at h
 | some o=>exact(Array.getElem?_eq_some_iff.1 ho).1
theorem trod_float{k:FloatKind}{t:TypeId}{fuel:Nat}{cs:List Value}{x:DataW H×List MemPlace}(ht:P.underlying t=some (.float k))(h:DataW.trod enc P w base spare held fuel t cs=some x):∃n,cs=[.float k n]/\(Lit.float k n).wf=true:=by
 cases fuel with
 | zero=>simp[DataW.trod] at h
 | succ n =>
  unfold DataW.trod at h;rw[ht] at h;split at h <;> simp_all
theorem trod_sound(hD:DOK P E)(nest:Bool)(hsp:nest=true->∀a u,w.cell? a=some u->spotV u):∀(n fuel:Nat) (t:TypeId) (cs:List Value) (d:DataW H×List MemPlace),okTy E nest n t=true ->
  DataW.trod enc P w base spare held fuel t cs=some d->(slicy E n t=true->∀u∈cs,spotV u)->∃x,RD E.L (λb=>b<w.heap.size) w x cs/\DT E n t x:=by
 intro n;induction n with
 | zero=>intro fuel t cs d hok;simp[okTy] at hok
 | succ n ih =>
  intro fuel t cs d hok h hs;unfold okTy at hok;unfold DT;unfold slicy at hs;cases hDt:E.D t with
  | none=>rw[hDt] at hok;simp at hok
  | some td =>
   rw[hDt] at hok hs;simp only at hok hs ⊢;have ht:=hD t td hDt;have hdesc:=ht.desc;have hcell:=cellsOf_D hD hDt;unfold Dsc at hdesc;cases hk:td.k with
   | int k =>
    rw[hk] at hdesc;obtain⟨m,rfl,_,hwf⟩:=DataW.trod_int hdesc h;simp[Lit.wf] at hwf;exact⟨.int k m,.int _ _,m,rfl,hwf.1,hwf.2⟩
   | bool =>
    rw[hk] at hdesc;obtain⟨b,rfl,_⟩:=DataW.trod_bool hdesc h;exact⟨.bool b,.bool _,b,rfl⟩
   | flt k =>
    rw[hk] at hdesc;obtain⟨m,rfl,hwf⟩:=trod_float hdesc h;exact⟨.flt k m,.flt _ _,m,rfl,hwf⟩
   | str =>
    rw[hk] at hdesc;obtain⟨s,rfl,_⟩:=DataW.trod_string hdesc h;exact⟨.str s,.str _,s,rfl⟩
   | slice e =>
    rw[hk] at hdesc hok hs;simp only[Bool.and_eq_true] at hok hs ⊢;obtain⟨⟨hed0,hoke⟩,hnest⟩:=hok;obtain⟨ed,hed,hpos⟩:∃ed,E.D e=some ed/\0<ed.size:=by
     cases hq:E.D e with
     | none=>rw[hq] at hed0;simp at hed0
     | some ed=>rw[hq] at hed0;exact⟨ed,rfl,by simpa using hed0⟩
    have hce:=cellsOf_D hD hed;rcases DataW.trod_slice hdesc h with ⟨rfl,_⟩ | ⟨a,len,cap,elems,rest,m,_,rfl,_,_,hlc,_,hel,hels,_,_⟩
    ·exact⟨.sl ed.size [],.sl _ [] none 0 0 [] rfl (Nat.le_refl 0) rfl (λi h=>by simp at h) (by simp) (by simp),ed,[],hed,rfl,by simp⟩
    ·have hspa:a.spot=none:=hs trivial (.slice (some a) len cap) (by simp)
     rw[hce] at hels;have hels:∀i,i<len->∃c:List Value,(∃x,RD E.L (λb=>b<w.heap.size) w x c/\DT E n e x)/\c.length=ed.size/\∀j,j<ed.size->w.cell? ((a.add (i * ed.size)).add j)=c[j]?:=by
      intro i hi;have hb:=hels i hi;rw[List.getElem?_eq_getElem (by omega)] at hb
      obtain⟨c,hc1,hc2⟩:=Option.bind_eq_some_iff.1 hb;obtain⟨_,hlen,hcells⟩:=World.cells?_some hc1;refine⟨c,ih m e c _ hoke hc2 ?_,hlen,hcells⟩;intro hsl u hu;rw[hsl] at hnest;simp at hnest;obtain⟨j,hj⟩:=List.mem_iff_getElem?.1 hu;have hjl:j<ed.size:=by rw[<-hlen];exact(List.getElem?_eq_some_iff.1 hj).1
      exact hsp hnest _ u ((hcells j hjl).trans hj)
     obtain⟨css,hcl,hcss⟩:=J6 len hels;obtain⟨xs,hxl,hxs⟩:=J6 (Q:=λi x=>∀h:i<css.length,RD E.L (λb=>b<w.heap.size) w x css[i]/\DT E n e x) len λi hi=>by
      have hi':i<css.length:=by omega
      obtain⟨x,hx⟩:=(hcss i hi').1;exact⟨x,λ_=>hx⟩
     have hz:∀c∈css,c.length=ed.size:=by intro c hc;obtain⟨i,hi,rfl⟩:=List.mem_iff_getElem.1 hc;exact(hcss i hi).2.1
     refine⟨.sl ed.size xs,.sl _ xs (some a) len cap css hxl hlc (by omega) (λi h1 h2=>(hxs i h1 h2).1) hz λh0=>⟨a,rfl,hspa,?_,?_⟩,ed,xs,hed,rfl,?_⟩
     ·have hi0:0<css.length:=by omega
      have h00:=(hcss 0 hi0).2.2 0 hpos;have hl0:=(hcss 0 hi0).2.1;rw[List.getElem?_eq_getElem (by omega)] at h00
      have:=cell_lt h00
      rwa [JX,JX] at this
     ·intro j u hj;have hjl:j<css.length * ed.size:=by
       have:=(List.getElem?_eq_some_iff.1 hj).1
       rwa [YH hz] at this
      have hi:j / ed.size<css.length:=Nat.div_lt_of_lt_mul (by rwa [Nat.mul_comm] at hjl)
      have hm':j % ed.size<ed.size:=Nat.mod_lt _ hpos;have e1:=JI css hz (j / ed.size) hi (j % ed.size) hm';have e2:j / ed.size * ed.size+j % ed.size=j:=by rw[Nat.mul_comm];exact Nat.div_add_mod j ed.size
      rw[e2] at e1;have:=(hcss _ hi).2.2 (j % ed.size) hm';rw[add_add hspa,e2] at this;rw[this,<-e1,hj]
     ·intro y hy;obtain⟨i,hi,rfl⟩:=List.mem_iff_getElem.1 hy;exact(hxs i hi (by omega)).2
   | struct tag =>
    rw[hk] at hdesc hok hs;simp only at hok hs ⊢;obtain⟨fs,hu,hty,hfl,hoff⟩:=hdesc;have hsz:=ht.size;rw[hk] at hsz;simp only at hsz;obtain⟨ys,m,_,_,hlen,hyl,hys⟩:=DataW.trod_struct hu h;rw[hcell,hsz] at hlen;have hel:∀i,i<(E.L tag).length->∃x,∀hi:i<(cutL (E.L tag) cs).length,RD E.L (λb=>b<w.heap.size) w x (cutL (E.L tag) cs)[i]/\∀u,(E.flds t)[i]? = some u->DT E n u x:=by
     intro i hi;have hfi:i<fs.size:=by omega
     have hf:fs[i]? = some fs[i]:=Array.getElem?_eq_getElem hfi;obtain⟨ho,j,hj,hLj,_⟩:=hoff i fs[i] hf;have hb:=hys i fs[i] hf;rw[List.getElem?_eq_getElem (by omega)] at hb
     have hlf:fs.toList[i]? = some fs[i]:=by simp[hfi]
     have hfty:(E.flds t)[i]? = some fs[i].type:=by rw[<-hty,List.getElem?_map,hlf];rfl
     have hmem:fs[i].type∈E.flds t:=List.mem_iff_getElem?.2 ⟨i,hfty⟩;have hcf:P.cellsOf fs[i].type=j.size:=by unfold Program.cellsOf;rw[hj];rfl
     have hpiece:(cs.drop fs[i].offset).take (P.cellsOf fs[i].type)=(cs.drop ((E.L tag).take i).sum).take ((E.L tag)[i]):=by
      rw[ho,hcf];rw[List.getElem?_eq_getElem hi] at hLj;injection hLj with hLj
      rw[hLj]
     rw[hpiece] at hb;have hokf:=List.all_eq_true.1 hok _ hmem;obtain⟨x,hx1,hx2⟩:=ih m fs[i].type _ _ hokf hb (λhsl u hu=>hs (List.any_eq_true.2 ⟨_,hmem,hsl⟩) u (List.mem_of_mem_drop (List.mem_of_mem_take hu)))
     refine⟨x,λhi'=>⟨?_,λu hu'=>?_⟩⟩
     ·rw[cutL_get];exact hx1
     ·rw[hfty] at hu';injection hu' with hu'
      exact hu' ▸ hx2
    obtain⟨xs,hxl,hxs⟩:=J6 (E.L tag).length hel;have hcl:=cutL_len (E.L tag) cs;have hfl':(E.flds t).length=(E.L tag).length:=by rw[<-hty];simp[hfl]
    refine⟨.agg tag xs,?_,xs,rfl,by omega,λi u y h1 h2=>?_⟩
    ·have:=RD.agg (L:=E.L) (S:=λb=>b<w.heap.size) (w:=w) tag xs (cutL (E.L tag) cs) (by omega) (λi h1 h2=>(hxs i h1 h2).1) (cutL_lens _ _ hlen)
     rwa [Qc _ _ hlen] at this
    ·have hi:i<xs.length:=(List.getElem?_eq_some_iff.1 h2).1;rw[List.getElem?_eq_getElem hi] at h2;injection h2 with h2
     subst h2;exact(hxs i hi (by omega)).2 u h1
   | array tag m e =>
    rw[hk] at hdesc hok hs;simp only[Bool.and_eq_true] at hok hs ⊢;obtain⟨hu,j,hj,hL⟩:=hdesc;obtain⟨hed,hoke⟩:=hok;have hsz:=ht.size;rw[hk] at hsz;simp only at hsz;have hce:P.cellsOf e=j.size:=by unfold Program.cellsOf;rw[hj];rfl
    obtain⟨ys,k,_,_,hlen,hyl,hys⟩:=DataW.trod_array hu h;rw[hcell,hsz] at hlen;rw[hce] at hys;have hLl:(E.L tag).length=m:=by rw[hL];simp
    have hel:∀i,i<m->∃x,∀hi:i<(cutL (E.L tag) cs).length,RD E.L (λb=>b<w.heap.size) w x (cutL (E.L tag) cs)[i]/\DT E n e x:=by
     intro i hi;have hb:=hys i hi;rw[List.getElem?_eq_getElem (by omega)] at hb
     obtain⟨x,hx1,hx2⟩:=ih k e _ _ hoke hb (λhsl u hu=>hs hsl u (List.mem_of_mem_drop (List.mem_of_mem_take hu)))
     refine⟨x,λhi'=>⟨?_,hx2⟩⟩
     rw[cutL_get];have e1:((E.L tag).take i).sum=i * j.size:=by rw[hL,List.take_replicate,List.sum_replicate_nat,Nat.min_eq_left (Nat.le_of_lt hi)]
     have e2:(E.L tag)[i]'(by omega)=j.size:=by simp[hL]
     rw[e1,e2];exact hx1
    obtain⟨xs,hxl,hxs⟩:=J6 m hel;have hcl:=cutL_len (E.L tag) cs;refine⟨.agg tag xs,?_,xs,rfl,hxl,λy hy=>?_⟩
    ·have:=RD.agg (L:=E.L) (S:=λb=>b<w.heap.size) (w:=w) tag xs (cutL (E.L tag) cs) (by omega) (λi h1 h2=>(hxs i h1 h2).1) (cutL_lens _ _ hlen)
     rwa [Qc _ _ hlen] at this
    ·obtain⟨i,hi,rfl⟩:=List.mem_iff_getElem.1 hy;exact(hxs i hi (by omega)).2
   | _=>rw[hk] at hok;simp at hok
end
end Go.Am
namespace Go.Am
open Go.Proofs
open Go Go.RowKit Go.ChangeShapes Go.WideShapes Go.WideElems
section
variable{H:Type}{enc:TypeId×Value->H}{P:Program}
theorem zAm(hl:laidOutB P=true){W W':World}{sp':Nat->Bool}:∀{ts:List TypeId} {vs:List Value} {ds:List (DataW H)} {ps:List MemPlace},
  (ts.all λt=>P.readableRec t && decide (t<P.types.size))=true->DataW.TrodAll enc P W 0 (λ_=>true) true ts vs ds ps->(∀p∈ps,W.sameAt W' p)->(∀p∈ps,sp' p.block=true)->DataW.TrodAll enc P W' 0 sp' true ts vs ds ps
 | [],_,_,_,_,h,_,_=>by
  obtain⟨rfl,rfl,rfl⟩:=trodAll_nil h;exact trodAll_mk0
 | t :: ts,_,_,_,ht,h,hs,hp=>by
  obtain⟨v,vs1,d,ds1,a,c,rfl,rfl,rfl,h1,h2⟩:=trodAll_cons h;simp only[List.all_cons,Bool.and_eq_true,decide_eq_true_eq] at ht;exact⟨a,c,Trod_stays hl ht.1.1 ht.1.2 h1 (λx hx=>hs x (List.mem_append_left _ hx)) (λx hx=>hp x (List.mem_append_left _ hx)),
   zAm hl ht.2 h2 (λx hx=>hs x (List.mem_append_right _ hx)) (λx hx=>hp x (List.mem_append_right _ hx)),rfl⟩
theorem qr(hl:laidOutB P=true){t:TypeId}(hbool:P.underlying t=some .bool){f:Func}{s:ChangeSpec}{apart fresh handsOn again:Bool}{W W':World}{args:Array Value}{ds gs:List (DataW H)}{before:List MemPlace}
  (hpar:(f.params.toList.all λt=>P.readableRec t && decide (t<P.types.size))=true) (hvars:s.vars=[]) (hr:f.resultTypes=#[t])
  (hW:DataW.Whole enc P f.params.toList s.vars apart W args.toList ds gs before)
  (hfn:s.fn H (ds++gs)={ results:=[.lit (.bool true)],args:=ds,vars:=[] }) (hB:Below W.heap.size W W') :
  s.post enc P f apart fresh handsOn again W args (.bool true) W':=by
 have hW0:=hW;have hlt:=hW.lt;obtain⟨p,q,hA,hV,rfl,hfz,hnd⟩:=hW;rw[hvars] at hV;obtain⟨rfl,rfl⟩:=trodVars_none hV;have hrl:(Value.bool true).resultList f.resultTypes.size=[.bool true]:=by rw[hr];rfl
 have hres:∀(b:Nat) (sp:Nat->Bool) (hd:Bool),DataW.TrodAll enc P W' b sp hd f.resultTypes.toList ((Value.bool true).resultList f.resultTypes.size) [.lit (.bool true)] []:=λb sp hd=>by rw[hrl,hr];exact trodAll_mk1 (shut_bool hbool _)
 have hargs:∀sp:Nat->Bool,(∀x∈p,sp x.block=true)->DataW.TrodAll enc P W' 0 sp true f.params.toList args.toList ds p:=λsp hs =>
  zAm hl hpar hA (λx hx=>hB.same (hlt x (by simp[hx]))) hs
 refine⟨ds,[],p++[],[],p,[],hW0,?_,?_,?_,hB.frame _,λ_=>⟨?_,.lit (.bool true) :: ds,[],p++[],⟨p,[],?_,?_,rfl,?_,hnd⟩,λx hx _=>hx⟩⟩
 ·rw[hfn];exact hres _ _ _
 ·rw[hfn];exact hargs _ (λx hx=>by simpa using hlt x (by simp[hx]))
 ·rw[hfn,hvars];rfl
 ·intro j t' r h1 h2;rw[hrl] at h2;rw[hr] at h1
  match j,h1,h2 with
  | 0,h1,h2 =>
   simp at h1 h2;subst h1;subst h2;exact okWide_bool_mk hbool _
 ·exact trodAll_append (hargs _ (λ_ _=>rfl)) (hres 0 _ true)
 ·rw[hvars];rfl
 ·intro b off hp;rw[hB.frozen (p:=⟨b,off,none⟩) (hlt _ hp)];exact hfz b off hp
theorem spot_cell{W:World}{b:Nat}{t:TypeId}{v:Value}(h:Cell.okWide P W .any b t v):spotV v:=by
 cases v with
 | slice a n c =>
  cases a with
  | none=>trivial
  | some a =>
   unfold Cell.okWide at h;split at h
   all_goals first
    | (rename_i e;cases e;done)
    | (unfold Cell.ok at h
       split at h
       all_goals first
         | exact h.elim
         | (rename_i e;cases e;done)
         | (rename_i e;cases e;exact h.2.2.2.1))
    | skip
 | _=>trivial
theorem QX{W:World}{b:Nat}{t:TypeId}{v:Value}(h:Cell.okWide P W .any b t v):aggV v=false:=by
 cases v with
 | agg cs =>
  unfold Cell.okWide at h;split at h
  all_goals first
   | (rename_i e;cases e;done)
   | (unfold Cell.ok at h
      split at h
      all_goals first
        | exact h.elim
        | (rename_i e;cases e;done))
   | skip
 | _=>rfl
theorem spots{W:World}{b:Nat}{t:TypeId}{v:Value}(h:Value.okWide P W .any b t v):∀u∈vcs v,spotV u:=by
 have key:∀cs:Array Value,v=.agg cs->Row.okWide P W .any b t cs->∀u∈vcs v,spotV u:=by
  rintro cs rfl ⟨ts,_,_,hc⟩ u hu;obtain⟨i,hi⟩:=List.mem_iff_getElem?.1 (show u∈cs.toList from hu)
  obtain⟨t',_,h'⟩:=hc i u (by simpa using hi)
  exact spot_cell h'
 unfold Value.okWide at h;split at h
 ·obtain⟨cs,e,_,h⟩:=h;exact key cs e h
 ·obtain⟨cs,e,_,h⟩:=h;exact key cs e h
 ·intro u hu;have ha:=QX h;have:u=v:=by cases v <;> first | (simp[aggV] at ha;done) | simpa[vcs,Value.cells] using hu
  exact this ▸ spot_cell h
end
section
variable{H:Type}{enc:TypeId×Value->H}{P:Program}{E:Env}
theorem JV(hD:DOK P E){W:World}{base:Nat}{t:TypeId}{v:Value}{d:DataW H}{ps:List MemPlace}(n:Nat)(hok:okTy E false n t=true)(hval:Value.okWide P W .any base t v)(h:DataW.Trod enc P W 0 (λ_=>true) true t v d ps) :
  ∃x,RV E.L (λb=>b<W.heap.size) W x v/\DT E n t x:=by
 obtain⟨fuel,hf⟩:=h;obtain⟨x,hx,hdt⟩:=trod_sound hD false (λh=>by cases h) n fuel t _ _ hok hf (λ_=>spots hval)
 have hdt0:=hdt;cases n with
 | zero=>exact hdt.elim
 | succ n =>
  unfold DT at hdt;cases hDt:E.D t with
  | none=>rw[hDt] at hdt;exact hdt.elim
  | some td =>
   rw[hDt] at hdt;simp only at hdt;have hdesc:=(hD t td hDt).desc;unfold Dsc at hdesc;unfold Value.okWide at hval;refine⟨x,?_,hdt0⟩;cases hk:td.k with
   | int k =>
    rw[hk] at hdt hdesc;obtain⟨m,rfl,_⟩:=hdt;rw[hdesc] at hval;exact RV.of rfl hx (QX hval)
   | bool =>
    rw[hk] at hdt hdesc;obtain⟨m,rfl⟩:=hdt;rw[hdesc] at hval;exact RV.of rfl hx (QX hval)
   | flt k =>
    rw[hk] at hdt hdesc;obtain⟨m,rfl,_⟩:=hdt;rw[hdesc] at hval;exact RV.of rfl hx (QX hval)
   | str =>
    rw[hk] at hdt hdesc;obtain⟨m,rfl⟩:=hdt;rw[hdesc] at hval;exact RV.of rfl hx (QX hval)
   | slice e =>
    rw[hk] at hdt hdesc;obtain⟨ed,xs,_,rfl,_⟩:=hdt;rw[hdesc] at hval;exact RV.of rfl hx (QX hval)
   | struct tag =>
    rw[hk] at hdt hdesc;obtain⟨xs,rfl,_⟩:=hdt;obtain⟨fs,hu,_⟩:=hdesc;rw[hu] at hval;obtain⟨cs,rfl,_⟩:=hval;exact RV.of rfl hx rfl
   | array tag m e =>
    rw[hk] at hdt hdesc;obtain⟨xs,rfl,_⟩:=hdt;obtain⟨hu,_⟩:=hdesc;rw[hu] at hval;obtain⟨cs,rfl,_⟩:=hval;exact RV.of rfl hx rfl
   | _=>rw[hk] at hdt;exact hdt.elim
end
end Go.Am
namespace Go.Am
open Go.Proofs
open Go
inductive Tr where
 | fail
 | ret (r:CR)
 | ifB (b:Bool) (t e:Tr)
 | call (f:FuncId) (args:List DV) (kv:DV->Tr) (kf:Nat->List DV->Tr)
 | goto (j:Nat) (st:St)
def ifO(b:Bool)(x y:Option CR):Option CR:=match b with | true=>x | false=>y
def zC(o:Option CR)(kv:DV->Option CR)(kf:Nat->List DV->Option CR):Option CR :=
 match o with
 | some (.val x)=>kv x
 | some (.fresh s xs)=>kf s xs
 | none=>none
def run(call:FuncId->List DV->Option CR)(go:Nat->St->Option CR):Tr->Option CR
 | .fail=>none
 | .ret r=>some r
 | .ifB b t e=>ifO b (run call go t) (run call go e)
 | .call f a kv kf=>zC (call f a) (λx=>run call go (kv x)) (λs xs=>run call go (kf s xs))
 | .goto j st=>go j st
def getI:DV->Int | .int _ n=>n | _=>0
def getB:DV->Bool | .bool b=>b | _=>false
def getS:DV->ByteArray | .str s=>s | _=>ByteArray.empty
def elems:DV->List DV | .sl _ xs=>xs | _=>[]
def flds:DV->List DV | .agg _ xs=>xs | _=>[]
def undp:DV->DV | .dp x=>x | _=>.nl
def fnId:DV->FuncId | .fn f _ _=>f | _=>0
def fnA:DV->List DV | .fn _ a _=>a | _=>[]
def fnC:DV->List DV | .fn _ _ c=>c | _=>[]
def keys:DV->List DV | .mp ks _=>ks | _=>[]
def vals:DV->List DV | .mp _ vs=>vs | _=>[]
def tups:DV->List DV | .tup xs=>xs | _=>[]
def nth(xs:List DV)(i:Nat):DV:=match xs[i]? with | some x=>x | none=>.nl
def isAg(tag i:Nat):DV->Bool | .agg t xs=>(t == tag) && decide (i<xs.length) | _=>false
def isNl:DV->Bool | .nl=>true | _=>false
def zP(f:TypeId->DV->Bool):List TypeId->List DV->Bool
 | [],[]=>true
 | t :: ts,x :: xs=>f t x && zP f ts xs
 | _,_=>false
def expTL(f:TypeId->DV->DV):List TypeId->List DV->Nat->List DV
 | [],_,_=>[]
 | t :: ts,xs,i=>f t (nth xs i) :: expTL f ts xs (i+1)
def hasT(E:Env):Nat->TypeId->DV->Bool
 | 0,_,_=>false
 | n+1,t,x=>match E.D t with
  | none=>false
  | some td=>match td.k with
   | .int k=>match x with | .int k' _=>k' == k | _=>false
   | .bool=>match x with | .bool _=>true | _=>false
   | .str=>match x with | .str _=>true | _=>false
   | .slice e=>match E.D e with
    | some ed=>match x with | .sl s _=>s == ed.size | _=>false
    | none=>false
   | .map _ _=>match x with | .mp _ _=>true | _=>false
   | .struct tag=>match x with | .agg u xs=>(u == tag) && zP (hasT E n) (E.flds t) xs | _=>false
   | .array tag m _=>match x with | .agg u xs=>(u == tag) && decide (xs.length=m) | _=>false
   | .ptr _=>match x with | .dp _=>true | _=>false
   | .func=>match x with | .fn _ _ _=>true | _=>false
   | .iface=>match x with | .nilIf=>true | .ifc _ _=>true | _=>false
   | _=>false
def expT(E:Env):Nat->TypeId->DV->DV
 | 0,_,x=>x
 | n+1,t,x=>match E.D t with
  | none=>x
  | some td=>match td.k with
   | .int k=>.int k (getI x)
   | .bool=>.bool (getB x)
   | .str=>.str (getS x)
   | .slice e=>match E.D e with
    | some ed=>.sl ed.size (elems x)
    | none=>x
   | .map _ _=>.mp (keys x) (vals x)
   | .struct tag=>.agg tag (expTL (expT E n) (E.flds t) (flds x) 0)
   | .array tag _ _=>.agg tag (flds x)
   | .ptr _=>.dp (undp x)
   | .func=>.fn (fnId x) (fnA x) (fnC x)
   | _=>x
def shD:Nat:=6
def needs(E:Env):Nat->TypeId->Bool
 | 0,_=>false
 | n+1,t=>match E.D t with
  | none=>false
  | some td=>match td.k with
   | .slice _=>true
   | .struct _=>(E.flds t).any (needs E n)
   | _=>false
def cnTL(f:TypeId->DV->DV):List TypeId->List DV->List DV
 | t :: ts,x :: xs=>f t x :: cnTL f ts xs
 | _,xs=>xs
def cnE(E:Env)(t:TypeId)(x:DV):DV :=
 match E.D t with
 | none=>x
 | some td=>match td.k with
  | .slice e=>match E.D e with
   | some ed=>match x with
    | .nl=>.sl ed.size []
    | x=>x
   | none=>x
  | _=>x
def cnT(E:Env):Nat->TypeId->DV->DV
 | 0,_,x=>x
 | n+1,t,x=>match needs E (n+1) t with
  | false=>x
  | true=>match E.D t with
   | none=>x
   | some td=>match td.k with
    | .slice e=>match E.D e with
     | some ed=>match x with
      | .nl=>.sl ed.size []
      | .sl s xs=>match needs E n e with
       | true=>.sl s (xs.map (cnE E e))
       | false=>.sl s xs
      | x=>x
     | none=>x
    | .struct tag=>match x with
     | .agg u xs=>match u == tag with
      | true=>.agg u (cnTL (cnT E n) (E.flds t) xs)
      | false=>.agg u xs
     | x=>x
    | _=>x
def z1(E:Env)(f:FuncId)(ds:List DV):List DV :=
 match E.F f with
 | some fn=>cnTL (cnT E shD) fn.params.toList ds
 | none=>ds
def cnRes(E:Env)(fn:Func)(x:DV):DV :=
 match fn.resultTypes.toList with
 | [t]=>cnT E shD t x
 | ts=>match x with
  | .tup xs=>.tup (cnTL (cnT E shD) ts xs)
  | x=>x
structure XF where
 cells:List Nat:=[]
 live:List (List Nat):=[]
 caps:Nat:=0
 cuts:List (Nat×List Nat):=[]
 deriving Inhabited
structure XC where
 arr:List Nat
 fx:FuncId->XF
def gd(b:Bool)(t:Tr):Tr:=.ifB b t .fail
def hard(b:Bool)(t:Tr):Tr:=match b with | true=>t | false=>.fail
def optK{α:Type}(o:Option α)(k:α->Tr):Tr:=match o with | some a=>k a | none=>.fail
def eqX(E:Env)(t:TypeId)(neg:Bool)(x y:DV)(k:DV->Tr):Tr :=
 gd (eqOp E t x y).isSome (k (.bool (match neg with | true=>!((eqOp E t x y).getD false) | false=>(eqOp E t x y).getD false)))
def intX(E:Env)(op:BinOp)(t:TypeId)(k1:IntKind)(a:Int)(k2:IntKind)(b:Int)(k:DV->Tr):Tr :=
 match op with
 | .quo=>hard (decide (k1=k2)) (gd (!(b == 0)) (k (.int k1 (k1.wrap (a.tdiv b)))))
 | .rem=>hard (decide (k1=k2)) (gd (!(b == 0)) (k (.int k1 (a.tmod b))))
 | .shl=>gd (decide (0<=b)) (k (.int k1 (k1.wrap (a * 2 ^ (min b.toNat k1.bits)))))
 | .shr=>gd (decide (0<=b)) (k (.int k1 (a.fdiv (2 ^ (min b.toNat k1.bits)))))
 | op=>optK (binD E op t (.int k1 a) (.int k2 b)) k
def binX(E:Env)(op:BinOp)(t:TypeId)(x y:DV)(k:DV->Tr):Tr :=
 match x with
 | .int k1 a=>match y with
  | .int k2 b=>intX E op t k1 a k2 b k
  | _=>.fail
 | .str a=>match y with
  | .str b=>match op with
   | .add=>gd (decide (((a.size+b.size:Nat):Int)<=IntKind.i64.max)) (k (.str (a++b)))
   | op=>optK (binD E op t (.str a) (.str b)) k
  | _=>.fail
 | x=>match op with
  | .eql=>eqX E t false x y k
  | .neq=>eqX E t true x y k
  | _=>.fail
def getBX(blk:Blk)(sz e:Nat)(k:AV->Tr):Tr :=
 match blk with
 | .dc s xs=>hard (s == sz) (gd (decide (e<xs.length)) (k (.d (nth xs e))))
 | .ac s xs=>hard (s == sz) (optK xs[e]? k)
 | _=>.fail
def getPX:List (Nat×Nat)->AV->(AV->Tr)->Tr
 | [],v,k=>k v
 | (tag,i) :: p,v,k=>match v with
  | .d x=>gd (isAg tag i x) (getPX p (.d (nth (flds x) i)) k)
  | .agg t fs=>hard (t == tag) (optK fs[i]? λx=>getPX p x k)
  | _=>.fail
def setPX(L:Nat->List Nat):List (Nat×Nat)->AV->AV->(AV->Tr)->Tr
 | [],new,_,k=>k new
 | (tag,i) :: p,new,v,k=>match v with
  | .d x=>gd (isAg tag i x) (setPX L p new (.d (nth (flds x) i)) λy=>hard (decide (Jb L y=(L tag).getD i 0)) <| match y with
    | .d y=>k (.d (.agg tag ((flds x).set i y)))
    | y=>k (.agg tag (((flds x).map .d).set i y)))
  | .agg t fs=>hard (t == tag) (optK fs[i]? λx=>setPX L p new x λy=>hard (decide (Jb L y=(L tag).getD i 0)) (optK (setF tag i y (.agg t fs)) k))
  | _=>.fail
def setBX(blk:Blk)(e:Nat)(v:AV)(k:Blk->Tr):Tr :=
 match blk with
 | .dc s xs=>match v with
  | .d y=>k (.dc s (xs.set e y))
  | v=>k (.ac s ((xs.map .d).set e v))
 | .ac s xs=>k (.ac s (xs.set e v))
 | _=>.fail
def shX(E:Env)(td:TD)(asis:Bool)(t:TypeId)(v:AV)(k:AV->Tr):Tr :=
 match asis with
 | true=>hard (fits td v) (k v)
 | false=>match v with
  | .d x=>gd (hasT E shD t x) (k (.d (expT E shD t x)))
  | v=>hard (fits td v) (k v)
def loadX(E:Env)(X:XC)(F:XF)(t:TypeId)(hp:List (Option OB))(a:AV)(k:Eff->Tr):Tr :=
 optK (E.D t) λtd=>match a with
  | .d (.dp x)=>shX E td false t (.d x) λv=>k { v }
  | .ptr b sz e p=>optK (slot hp b) λob=>getBX ob.blk sz e λv=>getPX p v λx =>
    shX E td (F.cells.contains b && p.all λq=>!X.arr.contains q.1) t x λv=>k { v }
  | _=>.fail
def storeX(E:Env)(t:TypeId)(hp:List (Option OB))(a x:AV)(k:Eff->Tr):Tr :=
 optK (E.D t) λtd=>match a with
  | .ptr b sz e p=>optK (slot hp b) λob=>hard (!ob.fz) <| hard (fits td x) <|
    getBX ob.blk sz e λv=>setPX E.L p x v λy=>hard (decide (Jb E.L y=sz)) <|
    setBX ob.blk e y λblk=>k { v:=.d (.tup []),upd:=some (b,blk) }
  | _=>.fail
def zBN(E:Env)(t:TypeId)(dst:Nat)(l c:AV)(k:Eff->Tr):Tr :=
 optK (E.D t) λtd=>match td.k with
  | .slice e=>optK (E.D e) λed=>optK (asI l) λn=>optK (asI c) λm=>hard (decide (0<ed.size)) <|
   gd (decide (0<=n/\n=m/\ed.bytes * m<=281474976710656/\m<=9223372036854775807)) <|
    k { v:=.own dst 0 (List.replicate n.toNat ed.zero).length ed.size,new:=some (.dc ed.size (List.replicate n.toNat ed.zero)) }
  | _=>.fail
def zBS(E:Env)(t:TypeId)(x:AV)(i:Nat)(k:Eff->Tr):Tr :=
 optK (E.D t) λtd=>match td.k with
  | .struct tag=>match x with
   | .ptr b sz e p=>hard (decide (i<(E.L tag).length)) (k { v:=.ptr b sz e (p++[(tag,i)]) })
   | .d (.dp x)=>gd (isAg tag i x) (k { v:=.d (.dp (nth (flds x) i)) })
   | _=>.fail
  | _=>.fail
def zBO(E:Env)(t:TypeId)(x ix:AV)(k:Eff->Tr):Tr :=
 optK (E.D t) λtd=>optK (asI ix) λi=>match td.k with
  | .slice e=>optK (E.D e) λed=>match x with
   | .d (.sl sz xs)=>hard (sz == ed.size) <| gd (decide (0<=i/\i<xs.length)) (k { v:=.d (.dp (nth xs i.toNat)) })
   | .own b off len sz=>hard (sz == ed.size) <| gd (decide (0<=i/\i<len)) (k { v:=.ptr b sz (off+i.toNat) [] })
   | _=>.fail
  | .array tag n _=>match x with
   | .ptr b sz e p=>gd (decide (0<=i/\i<n)) (k { v:=.ptr b sz e (p++[(tag,i.toNat)]) })
   | .d (.dp x)=>gd (decide (0<=i)) (gd (isAg tag i.toNat x) (k { v:=.d (.dp (nth (flds x) i.toNat)) }))
   | _=>.fail
  | _=>.fail
def indexX(E:Env)(t:TypeId)(x ix:AV)(k:Eff->Tr):Tr :=
 optK (E.D t) λtd=>optK (asI ix) λi=>match td.k with
  | .array tag _ e=>optK (E.D e) λed=>gd (decide (0<=i)) <| match x with
   | .d x=>gd (isAg tag i.toNat x) (shX E ed false e (.d (nth (flds x) i.toNat)) λv=>k { v })
   | .agg u fs=>hard (u == tag) (optK fs[i.toNat]? λv=>hard (fits ed v) (k { v }))
   | _=>.fail
  | .str=>match x with
   | .d (.str s)=>gd (decide (0<=i/\i<s.size)) (k { v:=.d (.int .u8 (s[i.toNat]?.getD 0).toNat) })
   | _=>.fail
  | _=>.fail
def boundX(d:Nat)(o:Option AV)(k:Nat->Tr):Tr :=
 match o with
 | none=>k d
 | some v=>optK (asI v) λi=>gd (decide (0<=i)) (k i.toNat)
def sliceX(E:Env)(t:TypeId)(x:AV)(lo hi mx:Option AV)(k:Eff->Tr):Tr :=
 optK (E.D t) λtd=>match mx with
 | some _=>.fail
 | none=>boundX 0 lo λl=>match td.k with
  | .str=>match x with
   | .d (.str s)=>boundX s.size hi λh=>gd (decide (l<=h/\h<=s.size)) (k { v:=.d (.str (s.extract l h)) })
   | _=>.fail
  | .slice e=>optK (E.D e) λed=>match x with
   | .d (.sl sz xs)=>hard (sz == ed.size) <| boundX xs.length hi λh=>gd (decide (l<=h/\h<=xs.length)) (k { v:=.d (.sl sz ((xs.take h).drop l)) })
   | .d .nl=>boundX 0 hi λh=>gd (decide (l=0/\h=0)) (k { v:=.d .nl })
   | .own b off len sz=>hard (sz == ed.size) <| boundX len hi λh=>gd (decide (l<=h/\h<=len)) (k { v:=.own b (off+l) (h - l) sz })
   | _=>.fail
  | _=>.fail
def mapX(hp:List (Option OB))(m:AV)(k:List DV->List DV->Tr):Tr :=
 match m with
 | .d (.mp ks vs)=>k ks vs
 | .d .nilMp=>k [] []
 | .omp b=>match slot hp b with
  | some ⟨_,.mp ks vs⟩=>k ks vs
  | _=>.fail
 | _=>.fail
def lookupX(E:Env)(t:TypeId)(hp:List (Option OB))(m key:AV)(ok:Bool)(k:Eff->Tr):Tr :=
 optK (E.D t) λtd=>match td.k with
  | .map kt et=>optK (E.D kt) λkd=>optK (E.D et) λed=>match key with
   | .d x=>hard (jl kd x) <| mapX hp m λks vs =>
    gd (jh x ks vs).isSome <| .ifB (((jh x ks vs).getD none).isSome)
     (gd (hasT E shD et (((jh x ks vs).getD none).getD .nl)) <|
      k { v:=.d (match ok with | true=>.tup [expT E shD et (((jh x ks vs).getD none).getD .nl),.bool true] | false=>expT E shD et (((jh x ks vs).getD none).getD .nl)) })
     (k { v:=.d (match ok with | true=>.tup [ed.zero,.bool false] | false=>ed.zero) })
   | _=>.fail
  | _=>.fail
def Qm(E:Env)(t:TypeId)(hp:List (Option OB))(m key v:AV)(k:Eff->Tr):Tr :=
 optK (E.D t) λtd=>match td.k with
  | .map kt et=>optK (E.D kt) λkd=>optK (E.D et) λed=>match m,key,v with
   | .omp b,.d x,.d v=>hard (jl kd x) <| hard (fits ed (.d v)) <| match slot hp b with
    | some ⟨false,.mp ks vs⟩=>gd (putK x v ks vs).isSome <| k { v:=.d (.tup []),upd:=some (b,.mp ((putK x v ks vs).getD ([],[])).1 ((putK x v ks vs).getD ([],[])).2) }
    | _=>.fail
   | _,_,_=>.fail
  | _=>.fail
def nextX(hp:List (Option OB))(isString:Bool)(v:AV)(k:Eff->Tr):Tr :=
 match v with
 | .it b=>hard isString <| match slot hp b with
  | some ⟨false,.sit s pos⟩=>.ifB (decide (pos<s.size))
    (k { v:=.d (.tup [.bool true,.int .i64 pos,.int .i32 (Utf8.decode s pos).1]),upd:=some (b,.sit s (pos+(Utf8.decode s pos).2)) })
    (k { v:=.d (.tup [.bool false]) })
  | _=>.fail
 | _=>.fail
def zBM(f:AV->(DV->Tr)->Tr):List AV->(List DV->Tr)->Tr
 | [],k=>k []
 | v :: r,k=>f v λx=>zBM f r λxs=>k (x :: xs)
def Q3(hp:List (Option OB)):Nat->AV->(DV->Tr)->Tr
 | 0,v,k=>match v with
  | .d x=>k x
  | _=>.fail
 | n+1,v,k=>match v with
  | .d x=>k x
  | .own b off len sz=>match slot hp b with
   | some ⟨_,.dc s xs⟩=>hard (s == sz) (gd (decide (off+len<=xs.length)) (k (.sl sz ((xs.drop off).take len))))
   | some ⟨_,.ac s xs⟩=>hard (s == sz && decide (off+len<=xs.length)) (zBM (Q3 hp n) ((xs.drop off).take len) λds=>k (.sl sz ds))
   | _=>.fail
  | .ptr b sz e p=>optK (slot hp b) λob=>getBX ob.blk sz e λv=>getPX p v λx=>Q3 hp n x λy=>hard (!y.isTup) (k (.dp y))
  | .omp b=>match slot hp b with
   | some ⟨_,.mp ks vs⟩=>k (.mp ks vs)
   | _=>.fail
  | .agg tag fs=>zBM (Q3 hp n) fs λds=>k (.agg tag ds)
  | .fn f a c=>zBM (Q3 hp n) a λx=>zBM (Q3 hp n) c λy=>k (.fn f x y)
  | _=>.fail
def elemsX(hp:List (Option OB))(sz:Nat)(v:AV)(k:List DV->List Nat->Tr):Tr :=
 match v with
 | .d .nl=>k [] []
 | .d (.sl s xs)=>hard (s == sz) (k xs [])
 | .own b off len s=>hard (s == sz) <| match slot hp b with
  | some ⟨_,.dc s' xs⟩=>hard (s' == sz) (gd (decide (off+len<=xs.length)) (k ((xs.drop off).take len) []))
  | some ⟨_,.ac s' xs⟩=>hard (s' == sz && decide (off+len<=xs.length)) (zBM (Q3 hp zx) ((xs.drop off).take len) λds=>k ds (((xs.drop off).take len).flatMap (sites hp zx)))
  | _=>.fail
 | _=>.fail
def baseX(hp:List (Option OB))(sz:Nat)(v:AV)(k:List DV->Option Nat->Tr):Tr :=
 match v with
 | .d .nl=>k [] none
 | .own b off len s=>hard (s == sz && off == 0) <| match slot hp b with
  | some ⟨false,.dc s' xs⟩=>hard (s' == sz) (gd (decide (len=xs.length)) (k xs (some b)))
  | _=>.fail
 | _=>.fail
def appendX(E:Env)(ts:List TypeId)(dst:Nat)(hp:List (Option OB))(args:List AV)(k:Eff->Tr):Tr :=
 match args with
 | [s,x]=>match ts with
  | [t,u]=>hard (decide (t=u)) <| optK (E.D t) λtd=>match td.k with
   | .slice e=>optK (E.D e) λed=>hard (decide (0<ed.size/\0<ed.bytes)) <| baseX hp ed.size s λbs kil=>elemsX hp ed.size x λel frz =>
    gd (decide ((2 * (bs.length+el.length)+200) * ed.bytes<=281474976710656)) <| match kil with
     | none=>.ifB el.isEmpty (k { v:=.d .nl }) (k { v:=.own dst 0 (bs++el).length ed.size,new:=some (.dc ed.size (bs++el)),frz })
     | some b=>k { v:=.own dst 0 (bs++el).length ed.size,new:=some (.dc ed.size (bs++el)),kil:=some b,frz }
   | _=>.fail
  | _=>.fail
 | _=>.fail
def copyX(E:Env)(ts:List TypeId)(hp:List (Option OB))(args:List AV)(k:Eff->Tr):Tr :=
 match args with
 | [s,x]=>match ts with
  | [t,_]=>optK (E.D t) λtd=>match td.k with
   | .slice e=>optK (E.D e) λed=>match s with
    | .own b off len sz=>hard (decide (sz=ed.size)) <| match slot hp b with
     | some ⟨false,.dc s' xs⟩=>hard (s' == sz) <| gd (decide (off+len<=xs.length)) <| elemsX hp ed.size x λel frz =>
       k { v:=.d (.int .i64 (min el.length len:Nat)),upd:=some (b,.dc s' (xs.take off++el.take (min el.length len)++xs.drop (off+min el.length len))),frz }
     | _=>.fail
    | _=>.fail
   | _=>.fail
  | _=>.fail
 | _=>.fail
def resX(E:Env)(ts:List TypeId)(x:DV)(k:DV->Tr):Tr :=
 match ts with
 | [t]=>gd (hasT E shD t x) (k (expT E shD t x))
 | ts=>gd (x.isTup && zP (hasT E shD) ts (tups x)) (k (.tup (expTL (expT E shD) ts (tups x) 0)))
def eszR(E:Env)(fn:Func):Nat :=
 match fn.resultTypes.toList with
 | [t]=>match E.D t with
  | some td=>match td.k with
   | .slice e=>match E.D e with
    | some ed=>ed.size
    | none=>0
   | _=>0
  | none=>0
 | _=>0
def nodeX(E:Env)(dst:Nat)(o:Operand)(ty:TypeId)(f:FuncId)(ds:List DV)(ss:List Nat)(k:Eff->Tr):Tr :=
 match o with
 | .func g=>match E.F g with
  | some fn=>match E.fresh g with
   | true=>.call f (z1 E f ds) (λx=>gd (isNl x) (k (deliver dst ss (.val .nl)))) λs xs=>gd (s == eszR E fn) (k (deliver dst ss (.fresh (eszR E fn) xs)))
   | false=>.call f (z1 E f ds) (λx=>resX E fn.resultTypes.toList x λy=>k (deliver dst ss (.val y))) λ_ _=>.fail
  | none=>.fail
 | _=>.call f (z1 E f ds) (λx=>resX E [ty] x λy=>k (deliver dst ss (.val y))) λ_ _=>.fail
def callX1(E:Env)(dst:Nat)(hp:List (Option OB))(o:Operand)(ty:TypeId)(f:AV)(args:List AV)(k:Eff->Tr):Tr :=
 match f with
 | .d (.fn g a c)=>zBM (Q3 hp zx) args λds=>nodeX E dst o ty g (a++ds++c) (jb hp args) k
 | .fn g a c=>zBM (Q3 hp zx) (a++args++c) λds=>nodeX E dst o ty g ds (jb hp (a++args++c)) k
 | _=>.fail
def opX(E:Env)(X:XC)(F:XF)(o:Oper)(tm:List AV)(hp:List (Option OB))(k:Eff->Tr):Tr :=
 match o.op with
 | .pick c a b=>optK (evO E tm c) λc=>optK (asB c) λc=>.ifB c (optK (evO E tm a) λv=>k { v }) (optK (evO E tm b) λv=>k { v })
 | .binOp op t x y _=>optK (evO E tm x) λa=>optK (evO E tm y) λb=>match a with
  | .d a=>match b with
   | .d b=>hard (ifaceOK x y a b) (binX E op t a b λr=>k { v:=.d r })
   | _=>.fail
  | _=>.fail
 | .load t a=>optK (evO E tm a) λp=>loadX E X F t hp p k
 | .store t a x=>optK (evO E tm a) λp=>optK (evO E tm x) λv=>storeX E t hp p v k
 | .makeSlice t l c=>optK (evO E tm l) λl=>optK (evO E tm c) λc=>zBN E t (zc o) l c k
 | .slice t x lo hi mx=>optK (evO E tm x) λx=>optK (qp E tm lo) λlo=>optK (qp E tm hi) λhi=>optK (qp E tm mx) λmx=>sliceX E t x lo hi mx k
 | .fieldAddr t x i=>optK (evO E tm x) λx=>zBS E t x i k
 | .indexAddr t x i=>optK (evO E tm x) λx=>optK (evO E tm i) λi=>zBO E t x i k
 | .index t x i=>optK (evO E tm x) λx=>optK (evO E tm i) λi=>indexX E t x i k
 | .lookup t m key ok=>optK (evO E tm m) λm=>optK (evO E tm key) λkey=>lookupX E t hp m key ok k
 | .mapUpdate t m key x=>optK (evO E tm m) λm=>optK (evO E tm key) λkey=>optK (evO E tm x) λx=>Qm E t hp m key x k
 | .insert t m key x=>optK (evO E tm m) λm=>optK (evO E tm key) λkey=>optK (evO E tm x) λx=>Qm E t hp m key x k
 | .next i s=>optK (evO E tm i) λi=>nextX hp s i k
 | .call c=>match c.callee with
  | .value f=>optK (evL E tm c.args.toList) λargs=>optK (evO E tm f) λv=>callX1 E (zc o) hp f o.type v args k
  | .builtin .append=>optK (evL E tm c.args.toList) λargs=>appendX E c.argTypes.toList (zc o) hp args k
  | .builtin .copy=>optK (evL E tm c.args.toList) λargs=>copyX E c.argTypes.toList hp args k
  | _=>optK (effE E (λ_ _=>none) o.op (zc o) tm hp) k
 | _=>optK (effE E (λ_ _=>none) o.op (zc o) tm hp) k
def frcV(v:AV)(k:AV->Tr):Tr :=
 match v with
 | .d x=>k (.d x)
 | .undef=>k .undef
 | .own b off len sz=>k (.own b off len sz)
 | .ptr b sz e p=>k (.ptr b sz e p)
 | .omp b=>k (.omp b)
 | .it b=>k (.it b)
 | .agg t fs=>k (.agg t fs)
 | .fn f a c=>k (.fn f a c)
def frcL:List AV->(List AV->Tr)->Tr
 | [],k=>k []
 | v :: r,k=>frcV v λv=>frcL r λr=>k (v :: r)
def frcB(b:Blk)(k:Blk->Tr):Tr :=
 match b with
 | .dc s xs=>k (.dc s xs)
 | .ac s xs=>frcL xs λxs=>k (.ac s xs)
 | .mp ks vs=>k (.mp ks vs)
 | .sit s p=>k (.sit s p)
def frcZ(z:Bool)(k:Bool->Tr):Tr:=match z with | true=>k true | false=>k false
def frcH:List (Option OB)->(List (Option OB)->Tr)->Tr
 | [],k=>k []
 | o :: r,k=>match o with
  | none=>frcH r λr=>k (none :: r)
  | some ⟨z,b⟩=>frcZ z λz=>frcB b λb=>frcH r λr=>k (some ⟨z,b⟩ :: r)
def frc(st:St)(k:St->Tr):Tr:=frcL st.tm λtm=>frcH st.hp λhp=>k ⟨tm,hp⟩
def setK:List AV->Nat->AV->(List AV->Tr)->Tr
 | [],_,_,k=>k []
 | _ :: r,0,v,k=>frcV v λv=>k (v :: r)
 | x :: r,n+1,v,k=>setK r n v λr=>k (x :: r)
def putK'(tm:List AV)(dst:Option Tmp)(v:AV)(k:List AV->Tr):Tr :=
 match dst with
 | some t=>setK tm t v k
 | none=>k tm
def Eff.quiet(ef:Eff):Bool :=
 (match ef.new with | none=>true | some _=>false) && (match ef.upd with | none=>true | some _=>false) && (match ef.kil with | none=>true | some _=>false) && (match ef.frz with | []=>true | _=>false)
def guardX(ops:List Oper)(o:Oper)(tm:List AV)(k:Bool->List AV->Tr):Tr :=
 match o.guard with
 | none=>k true tm
 | some (j,want)=>match ops[j]? with
  | some g=>match g.dst with
   | some t=>match tm[t]? with
    | some (.d (.bool b))=>.ifB b (match want with | true=>k true (tm.set t (.d (.bool true))) | false=>k false (tm.set t (.d (.bool true))))
      (match want with | true=>k false (tm.set t (.d (.bool false))) | false=>k true (tm.set t (.d (.bool false))))
    | some (.d (.tup []))=>k false tm
    | _=>.fail
   | none=>.fail
  | none=>.fail
def stepSX(E:Env)(X:XC)(F:XF)(o:Oper)(st:St)(k:St->Tr):Tr :=
 opX E X F o st.tm st.hp λef=>match ef.quiet with
 | true=>putK' st.tm o.dst ef.v λtm=>k ⟨tm,st.hp⟩
 | false=>hard ef.ok <|
  match ef.new with
  | none=>frc (zo ef o.dst (zc o) st) k
  | some b=>hard (o.dst.isSome && zl (zc o) b) (frc (zo ef o.dst (zc o) (clear (zc o) st)) k)
def stepFX(E:Env)(X:XC)(F:XF)(loud:Bool)(may:Option Nat)(o:Oper)(st:St)(k:St->Tr):Tr :=
 opX E X F o st.tm st.hp λef=>match ef.quiet with
 | true=>putK' st.tm o.dst ef.v λtm=>k ⟨tm,st.hp⟩
 | false=>hard (ef.ok && (loud || (ef.upd.isNone && (ef.kil.isNone || ef.kil == may)))) <|
  match ef.new with
  | none=>frc (zo ef o.dst (zc o) st) k
  | some b=>hard (o.dst.isSome && zl (zc o) b && (slot st.hp (zc o)).isNone) (frc (zo ef o.dst (zc o) st) k)
def runOpsX(E:Env)(X:XC)(F:XF)(ops:List Oper):List Oper->St->(St->Tr)->Tr
 | [],st,K=>K st
 | o :: r,st,K=>guardX ops o st.tm λg tm=>match g with
  | true=>stepSX E X F o { st with tm } λst'=>runOpsX E X F ops r st' K
  | false=>runOpsX E X F ops r { st with tm:=putT tm o.dst (.d (.tup [])) } K
def QH(E:Env)(X:XC)(F:XF)(ops:List Oper):List (Oper×Bool)->St->(St->Tr)->Tr
 | [],st,K=>K st
 | (o,pv) :: r,st,K=>guardX ops o st.tm λg tm=>match g with
  | true=>match pv with
   | true=>stepSX E X F o { st with tm } λst'=>QH E X F ops r st' K
   | false=>stepFX E X F (cls ops o.op).loud (qK ops o.op) o { st with tm } λst'=>QH E X F ops r st' K
  | false=>QH E X F ops r { st with tm:=putT tm o.dst (.d (.tup [])) } K
def zBI(E:Env)(X:XC)(F:XF)(ops:List Oper)(draw:Bool)(st:St)(K:St->Tr):Tr :=
 match draw with
 | false=>runOpsX E X F ops ops st K
 | true=>hard (okDraw ops) (frc (clearL (anews ops) st) λst=>QH E X F ops (ops.zipIdx.map λ(o,i)=>(o,pivot ops i)) st K)
def zBG(f:St->Tr)(K:Ex->St->Tr):Ex->St->Tr
 | .normal,st=>f st
 | e,st=>K e st
def blockX(id:Nat)(K:Ex->St->Tr):Ex->St->Tr
 | .exit i,st=>match i == id with | true=>K .normal st | false=>K (.exit i) st
 | e,st=>K e st
def z7:Code->Nat
 | .seq a b=>z7 a+z7 b
 | .cond _ a b=>z7 a+z7 b
 | .block _ c=>z7 c
 | .scope c=>z7 c
 | .loop c=>z7 c+1
 | _=>0
def ju:Code->Nat
 | .seq a b=>ju a+ju b+1
 | .cond _ a b=>ju a+ju b
 | .block _ c=>ju c
 | .scope c=>ju c
 | .loop c=>ju c
 | _=>0
def reach(hp:List (Option OB)):Nat->AV->List Nat
 | 0,_=>[]
 | n+1,v=>match v with
  | .own b _ _ _=>b :: (match slot hp b with | some ⟨_,.ac _ xs⟩=>xs.flatMap (reach hp n) | _=>[])
  | .ptr b _ _ _=>b :: (match slot hp b with | some ⟨_,.ac _ xs⟩=>xs.flatMap (reach hp n) | _=>[])
  | .omp b=>[b]
  | .it b=>[b]
  | .agg _ fs=>fs.flatMap (reach hp n)
  | .fn _ a c=>a.flatMap (reach hp n)++c.flatMap (reach hp n)
  | _=>[]
def keepT(live:List Nat):Nat->List AV->List AV
 | _,[]=>[]
 | i,v :: r=>(match live.contains i with | true=>v | false=>.undef) :: keepT live (i+1) r
def keepH(ss:List Nat):Nat->List (Option OB)->List (Option OB)
 | _,[]=>[]
 | b,o :: r=>(match ss.contains b with | true=>o | false=>none) :: keepH ss (b+1) r
def forget(live:List Nat)(st:St):St :=
 { tm:=keepT live 0 st.tm,hp:=keepH ((keepT live 0 st.tm).flatMap (reach st.hp zx)) 0 st.hp }
def setTm(st:St)(o:Operand)(b:Bool):St :=
 match o with
 | .tmp t=>{ st with tm:=st.tm.set t (.d (.bool b)) }
 | _=>st
def Ju(E:Env)(X:XC)(F:XF):Code->Nat->Nat->St->(Ex->St->Tr)->Tr
 | .skip,_,_,st,K=>K .normal st
 | .label _,_,_,st,K=>K .normal st
 | .region _ ops draw,_,_,st,K=>zBI E X F ops.toList draw st (K .normal)
 | .seq a b,n,q,st,K=>match F.cuts.lookup q with
  | none=>Ju E X F a n (q+1) st (zBG (λst'=>Ju E X F b (n+z7 a) (q+1+ju a) st' K) K)
  | some live=>Ju E X F a n (q+1) st (zBG (λst'=>frc (forget live st') (.goto (1000+q))) K)
 | .cond c a b,n,q,st,K=>optK (evO E st.tm c) λv=>optK (asB v) λt =>
   .ifB t (Ju E X F a n q (setTm st c true) K) (Ju E X F b (n+z7 a) (q+ju a) (setTm st c false) K)
 | .block id c,n,q,st,K=>Ju E X F c n q st (blockX id K)
 | .scope c,n,q,st,K=>Ju E X F c n q st K
 | .loop _,n,_,st,_=>frc (forget (F.live.getD n []) st) (.goto n)
 | .exit id,_,_,st,K=>K (.exit id) st
 | .ret,_,_,st,K=>K .ret st
 | _,_,_,_,_=>.fail
def inA(j n q:Nat):Bool:=match decide (j<1000) with | true=>decide (j<n) | false=>decide (j<1000+q)
def JZ(E:Env)(X:XC)(F:XF)(j:Nat):Code->Nat->Nat->(Ex->St->Tr)->St->Tr
 | .seq a b,n,q,K,st=>match decide (j=1000+q) with
  | true=>Ju E X F b (n+z7 a) (q+1+ju a) st K
  | false=>match inA j (n+z7 a) (q+1+ju a) with
   | true=>match F.cuts.lookup q with
    | none=>JZ E X F j a n (q+1) (zBG (λst'=>Ju E X F b (n+z7 a) (q+1+ju a) st' K) K) st
    | some live=>JZ E X F j a n (q+1) (zBG (λst'=>frc (forget live st') (.goto (1000+q))) K) st
   | false=>JZ E X F j b (n+z7 a) (q+1+ju a) K st
 | .cond _ a b,n,q,K,st=>match inA j (n+z7 a) (q+ju a) with
  | true=>JZ E X F j a n q K st
  | false=>JZ E X F j b (n+z7 a) (q+ju a) K st
 | .block id c,n,q,K,st=>JZ E X F j c n q (blockX id K) st
 | .scope c,n,q,K,st=>JZ E X F j c n q K st
 | .loop c,n,q,K,st=>match decide (j=n) with
  | true=>Ju E X F c (n+1) q st (zBG (λst'=>frc (forget (F.live.getD n []) st') (.goto n)) K)
  | false=>JZ E X F j c (n+1) q (zBG (λst'=>frc (forget (F.live.getD n []) st') (.goto n)) K) st
 | _,_,_,_,_=>.fail
def freshX(st:St)(v:AV):Tr :=
 match v with
 | .d .nl=>.ret (.val .nl)
 | .own b off len sz=>match slot st.hp b with
  | some ⟨false,.dc s xs⟩=>hard (s == sz && off == 0) (gd (decide (len=xs.length)) (.ret (.fresh sz xs)))
  | _=>.fail
 | _=>.fail
def finX(E:Env)(fresh:Bool)(fn:Func)(st:St):Tr :=
 optK (retVs E st fn.results.toList) λvs=>match vs with
  | [v]=>match fresh with
   | true=>freshX st v
   | false=>Q3 st.hp zx v λx=>hard (!x.isTup) (.ret (.val (cnRes E fn x)))
  | vs=>zBM (Q3 st.hp zx) vs λxs=>hard (!fresh && noTup xs) (.ret (.val (cnRes E fn (.tup xs))))
def endX(E:Env)(fresh:Bool)(fn:Func):Ex->St->Tr
 | .exit _,_=>.fail
 | _,st=>finX E fresh fn st
def isDp:DV->Bool | .dp _=>true | _=>false
def entryX(E:Env)(F:XF)(fn:Func)(args:List DV)(k:St->Tr):Tr :=
 match F.caps with
 | 0=>gd (zP (hasT E shD) fn.params.toList args)
   (k { tm:=(expTL (expT E shD) fn.params.toList args 0).map .d++List.replicate (fn.ntmps - fn.params.toList.length) .undef,hp:=List.replicate fn.ntmps none })
 | c+1=>gd (zP (hasT E shD) fn.params.toList (args.take fn.params.toList.length) && decide ((args.drop fn.params.toList.length).length=c+1) && (args.drop fn.params.toList.length).all isDp)
   (k { tm:=(expTL (expT E shD) fn.params.toList (args.take fn.params.toList.length) 0++(args.drop fn.params.toList.length).map λx=>DV.dp (undp x)).map .d++List.replicate (fn.ntmps - (fn.params.toList.length+(c+1))) .undef,hp:=List.replicate fn.ntmps none })
def funX(E:Env)(X:XC)(f:FuncId)(fn:Func)(c:Code)(args:List DV):Tr :=
 hard (decide (fn.params.toList.length+(X.fx f).caps<=fn.ntmps) && decide (z7 c<=1000)) (entryX E (X.fx f) fn args λst=>Ju E X (X.fx f) c 0 0 st (endX E (E.fresh f) fn))
def loopX(E:Env)(X:XC)(f:FuncId)(fn:Func)(c:Code)(j:Nat)(st:St):Tr :=
 JZ E X (X.fx f) j c 0 0 (endX E (E.fresh f) fn) st
def goX(call:FuncId->List DV->Option CR)(head:Nat->St->Tr):Nat->Nat->St->Option CR
 | 0,_,_=>none
 | n+1,j,st=>run call (goX call head n) (head j st)
end Go.Am
namespace Go.Am
open Go.Proofs
open Go
section
variable{E:Env}{call:FuncId->List DV->Option CR}{go:Nat->St->Option CR}{r:CR}
theorem jG{b:Bool}{t:Tr}(h:run call go (gd b t)=some r):b=true/\run call go t=some r:=by
 cases b
 ·simp[gd,run,ifO] at h
 ·exact⟨rfl,by simpa[gd,run,ifO] using h⟩
theorem zk{b:Bool}{t:Tr}(h:run call go (hard b t)=some r):b=true/\run call go t=some r:=by
 cases b
 ·simp[hard,run] at h
 ·exact⟨rfl,h⟩
theorem zZ{α:Type}{o:Option α}{k:α->Tr}(h:run call go (optK o k)=some r):∃a,o=some a/\run call go (k a)=some r:=by
 cases o
 ·simp[optK,run] at h
 ·exact⟨_,rfl,h⟩
theorem QE{b:Bool}{t e:Tr}(h:run call go (.ifB b t e)=some r):(b=true/\run call go t=some r)\/(b=false/\run call go e=some r):=by
 cases b
 ·exact .inr ⟨rfl,by simpa[run,ifO] using h⟩
 ·exact .inl ⟨rfl,by simpa[run,ifO] using h⟩
theorem zh{P:Prop}(h:run call go .fail=some r):P:=by simp[run] at h
theorem QF{f:FuncId}{a:List DV}{kv:DV->Tr}{kf:Nat->List DV->Tr}(h:run call go (.call f a kv kf)=some r) :
  (∃x,call f a=some (.val x)/\run call go (kv x)=some r)\/(∃s xs,call f a=some (.fresh s xs)/\run call go (kf s xs)=some r):=by
 simp only[run,zC] at h;split at h
 ·rename_i x hx;exact .inl ⟨x,hx,h⟩
 ·rename_i s xs hx;exact .inr ⟨s,xs,hx,h⟩
 ·cases h
theorem nth_of{xs:List DV}{i:Nat}(h:i<xs.length):xs[i]? = some (nth xs i):=by unfold nth;rw[List.getElem?_eq_getElem h]
theorem expTL_of{f:TypeId->DV->Bool}{g:TypeId->DV->DV}(hfg:∀t x,f t x=true->g t x=x):∀(ts:List TypeId) (xs pre:List DV),zP f ts xs=true->expTL g ts (pre++xs) pre.length=xs
 | [],[],pre,h=>rfl
 | t :: ts,x :: xs,pre,h=>by
  simp only[zP,Bool.and_eq_true] at h;have e:nth (pre++x :: xs) pre.length=x:=by simp[nth]
  have:=expTL_of hfg ts xs (pre++[x]) h.2;simp only[List.append_assoc,List.singleton_append,List.length_append,List.length_singleton] at this;simp only[expTL,e,hfg t x h.1,this]
 | [],_ :: _,_,h=>by simp[zP] at h
 | _ :: _,[],_,h=>by simp[zP] at h
theorem Qs{f:TypeId->DV->Bool}{g:TypeId->DV->DV}(hfg:∀t x,f t x=true->g t x=x){ts:List TypeId}{xs:List DV}(h:zP f ts xs=true):expTL g ts xs 0=xs :=
 expTL_of hfg ts xs [] h
theorem hasTL_len{f:TypeId->DV->Bool}:∀{ts:List TypeId} {xs:List DV},zP f ts xs=true->xs.length=ts.length
 | [],[],_=>rfl
 | t :: ts,x :: xs,h=>by
  simp only[zP,Bool.and_eq_true] at h;simp[hasTL_len h.2]
 | [],_ :: _,h=>by simp[zP] at h
 | _ :: _,[],h=>by simp[zP] at h
theorem Qw:∀(n:Nat) (t:TypeId) (x:DV),hasT E n t x=true->expT E n t x=x
 | 0,t,x,h=>by simp[hasT] at h
 | n+1,t,x,h=>by
  simp only[hasT] at h;simp only[expT];cases hd:E.D t with
  | none=>simp[hd] at h
  | some td =>
   rw[hd] at h;simp only at h ⊢;cases hk:td.k <;> rw[hk] at h <;> simp only at h ⊢
   case int k=>cases x <;> simp only[beq_iff_eq] at h <;> first | cases h;done | (subst h;rfl)
   case bool=>cases x <;> simp only at h <;> first | cases h;done | rfl
   case str=>cases x <;> simp only at h <;> first | cases h;done | rfl
   case ptr=>cases x <;> simp only at h <;> first | cases h;done | rfl
   case slice e =>
    cases he:E.D e with
    | none=>simp[he] at h
    | some ed =>
     rw[he] at h;simp only at h ⊢;cases x <;> simp only[beq_iff_eq] at h <;> first | cases h;done | (subst h;rfl)
   case map=>cases x <;> simp only at h <;> first | cases h;done | rfl
   case struct tag =>
    cases x <;> simp only[Bool.and_eq_true,beq_iff_eq] at h <;> first | cases h;done | skip
    obtain⟨h1,h2⟩:=h;subst h1;simp only[flds];rw[Qs (λt x=>Qw n t x) h2]
   case array tag m e =>
    cases x <;> simp only[Bool.and_eq_true,beq_iff_eq] at h <;> first | cases h;done | skip
    obtain⟨h1,h2⟩:=h;subst h1;rfl
   case func=>cases x <;> simp only at h <;> first | cases h;done | rfl
theorem has_fits{n:Nat}{t:TypeId}{x:DV}{td:TD}(h:hasT E n t x=true)(hd:E.D t=some td):fits td (.d x)=true/\x.isTup=false:=by
 cases n with
 | zero=>simp[hasT] at h
 | succ n =>
  simp only[hasT,hd] at h;cases hk:td.k <;> rw[hk] at h <;> simp only at h <;> simp only[fits,hk]
  case slice e =>
   cases he:E.D e with
   | none=>simp[he] at h
   | some ed=>rw[he] at h;cases x <;> first | exact⟨rfl,rfl⟩ | simp at h
  case struct tag=>cases x <;> first | (simp only[Bool.and_eq_true] at h;exact⟨h.1,rfl⟩) | simp at h
  case array tag m e=>cases x <;> first | (simp only[Bool.and_eq_true] at h;exact⟨h.1,rfl⟩) | simp at h
  all_goals cases x <;> first | exact⟨rfl,rfl⟩ | simp at h
theorem getBX_run{blk:Blk}{sz e:Nat}{k:AV->Tr}(h:run call go (getBX blk sz e k)=some r):∃v,blk.get sz e=some v/\run call go (k v)=some r:=by
 unfold getBX at h;split at h
 ·obtain⟨h1,h⟩:=zk h;obtain⟨h2,h⟩:=jG h;simp only[beq_iff_eq] at h1;simp only[decide_eq_true_eq] at h2;exact⟨_,by simp only[Blk.get,h1,if_true,nth_of h2],h⟩
 ·obtain⟨h1,h⟩:=zk h;obtain⟨v,h2,h⟩:=zZ h;simp only[beq_iff_eq] at h1;exact⟨v,by simp only[Blk.get,h1,if_true,h2],h⟩
 ·exact zh h
theorem isAg_get{tag i:Nat}{x:DV}(h:isAg tag i x=true):∃fs,x=.agg tag fs/\i<fs.length:=by
 cases x <;> simp only[isAg] at h <;> first | cases h;done | skip
 simp only[Bool.and_eq_true,beq_iff_eq,decide_eq_true_eq] at h;obtain⟨h1,h2⟩:=h;subst h1;exact⟨_,rfl,h2⟩
theorem getF_isAg{tag i:Nat}{x:DV}(h:isAg tag i x=true):getF tag i (.d x)=some (.d (nth (flds x) i)):=by obtain⟨fs,rfl,h2⟩:=isAg_get h;simp only[getF,if_true,flds,nth_of h2]
theorem zAi:∀{p:List (Nat×Nat)} {v:AV} {k:AV->Tr},run call go (getPX p v k)=some r->∃x,getP p v=some x/\run call go (k x)=some r
 | [],v,k,h=>⟨v,rfl,h⟩
 | (tag,i) :: p,v,k,h=>by
  simp only[getPX] at h;split at h
  ·obtain⟨h1,h⟩:=jG h;obtain⟨x,h2,h⟩:=zAi h;exact⟨x,by simp only[getP,getF_isAg h1,h2],h⟩
  ·obtain⟨h1,h⟩:=zk h;obtain⟨v,h2,h⟩:=zZ h;obtain⟨x,h3,h⟩:=zAi h;simp only[beq_iff_eq] at h1;exact⟨x,by simp only[getP,getF,h1,if_true,h2,h3],h⟩
  ·exact zh h
theorem setPX_run{L:Nat->List Nat}:∀{p:List (Nat×Nat)} {new v:AV} {k:AV->Tr},run call go (setPX L p new v k)=some r->∃y,setP L p new v=some y/\run call go (k y)=some r
 | [],new,v,k,h=>⟨new,rfl,h⟩
 | (tag,i) :: p,new,v,k,h=>by
  simp only[setPX] at h;split at h
  ·rename_i x;obtain⟨h1,h⟩:=jG h;have hg:=getF_isAg h1;obtain⟨fs,rfl,e2⟩:=isAg_get h1;obtain⟨y,h2,h⟩:=setPX_run h;obtain⟨h3,h⟩:=zk h;simp only[decide_eq_true_eq] at h3;have fin:∀{z:AV},setF tag i y (.d (.agg tag fs))=some z->run call go (k z)=some r->∃y,setP L ((tag,i) :: p) new (.d (.agg tag fs))=some y/\run call go (k y)=some r:=λhz hk =>
    ⟨_,by simp only[setP,hg,h2,h3,if_true,hz],hk⟩
   cases y <;> exact fin (by simp only[setF,if_true,e2,flds]) h
  ·rename_i t fs;obtain⟨h1,h⟩:=zk h;obtain⟨x,h2,h⟩:=zZ h;obtain⟨y,h3,h⟩:=setPX_run h;obtain⟨h4,h⟩:=zk h;obtain⟨z,h5,h6⟩:=zZ h;simp only[beq_iff_eq] at h1;subst h1;simp only[decide_eq_true_eq] at h4;exact⟨z,by simp only[setP,getF,if_true,h2,h3,h4,h5],h6⟩
  ·exact zh h
theorem setBX_run{blk:Blk}{sz e:Nat}{v v0:AV}(hg:blk.get sz e=some v0){k:Blk->Tr}(h:run call go (setBX blk e v k)=some r):∃b,blk.set sz e v=some b/\run call go (k b)=some r:=by
 cases blk with
 | dc s xs =>
  simp only[Blk.get] at hg;split at hg
  case isFalse=>cases hg
  rename_i hs;have hlt:e<xs.length:=by
   split at hg
   ·rename_i x hx;exact(List.getElem?_eq_some_iff.1 hx).1
   ·cases hg
  simp only[setBX] at h;cases v <;> exact⟨_,by simp only[Blk.set,hs,if_true,hlt] <;> rfl,h⟩
 | ac s xs =>
  simp only[Blk.get] at hg;split at hg
  case isFalse=>cases hg
  rename_i hs;have hlt:e<xs.length:=(List.getElem?_eq_some_iff.1 hg).1;simp only[setBX] at h;exact⟨_,by simp only[Blk.set,hs,if_true,hlt] <;> rfl,h⟩
 | mp _ _=>simp[Blk.get] at hg
 | sit _ _=>simp[Blk.get] at hg
theorem shX_run{td:TD}{asis:Bool}{t:TypeId}{v:AV}(hd:E.D t=some td){k:AV->Tr}(h:run call go (shX E td asis t v k)=some r):fits td v=true/\run call go (k v)=some r:=by
 unfold shX at h;split at h
 ·exact zk h
 ·split at h
  ·obtain⟨h1,h⟩:=jG h;rw[Qw _ _ _ h1] at h;exact⟨(has_fits h1 hd).1,h⟩
  ·exact zk h
theorem loadX_run{X:XC}{F:XF}{t:TypeId}{hp:List (Option OB)}{a:AV}{k:Eff->Tr}(h:run call go (loadX E X F t hp a k)=some r):∃ef,YQ E t hp a=some ef/\run call go (k ef)=some r:=by
 unfold loadX at h;obtain⟨td,hd,h⟩:=zZ h;split at h
 ·obtain⟨h1,h⟩:=shX_run hd h;exact⟨_,by simp only[YQ,hd,zN,h1,zY] <;> rfl,h⟩
 ·obtain⟨ob,h1,h⟩:=zZ h;obtain⟨v,h2,h⟩:=getBX_run h;obtain⟨x,h3,h⟩:=zAi h;obtain⟨h4,h⟩:=shX_run hd h;exact⟨_,by simp only[YQ,hd,zN,h1,h2,h3,h4,zY] <;> rfl,h⟩
 ·exact zh h
theorem storeX_run{t:TypeId}{hp:List (Option OB)}{a x:AV}{k:Eff->Tr}(h:run call go (storeX E t hp a x k)=some r):∃ef,Ym E t hp a x=some ef/\run call go (k ef)=some r:=by
 unfold storeX at h;obtain⟨td,hd,h⟩:=zZ h;split at h
 ·obtain⟨ob,h1,h⟩:=zZ h;obtain⟨h2,h⟩:=zk h;obtain⟨h3,h⟩:=zk h;obtain⟨v,h4,h⟩:=getBX_run h;obtain⟨y,h5,h⟩:=setPX_run h;obtain⟨h6,h⟩:=zk h;obtain⟨b,h7,h⟩:=setBX_run h4 h;exact⟨_,by simp only[Ym,hd,zN,h1,h2,h3,h4,h5,h6,h7,zY],h⟩
 ·exact zh h
theorem makeSliceX_run{t:TypeId}{dst:Nat}{l c:AV}{k:Eff->Tr}(h:run call go (zBN E t dst l c k)=some r):∃ef,Jg E t dst l c=some ef/\run call go (k ef)=some r:=by
 unfold zBN at h;obtain⟨td,hd,h⟩:=zZ h;split at h
 ·rename_i e hk;obtain⟨ed,he,h⟩:=zZ h;obtain⟨n,hn,h⟩:=zZ h;obtain⟨m,hm,h⟩:=zZ h;obtain⟨h1,h⟩:=zk h;obtain⟨h2,h⟩:=jG h;simp only[List.length_replicate] at h;simp only[decide_eq_true_eq] at h1 h2;exact⟨_,by simp only[Jg,hd,zN,hk,he,hn,hm,decide_eq_true (And.intro h1 h2),zY],h⟩
 ·exact zh h
theorem fieldAddrX_run{t:TypeId}{x:AV}{i:Nat}{k:Eff->Tr}(h:run call go (zBS E t x i k)=some r):∃ef,jq E t x i=some ef/\run call go (k ef)=some r:=by
 unfold zBS at h;obtain⟨td,hd,h⟩:=zZ h;split at h
 ·rename_i tag hk;split at h
  ·obtain⟨h1,h⟩:=zk h;exact⟨_,by simp only[jq,hd,zN,hk,h1,zY] <;> rfl,h⟩
  ·obtain⟨h1,h⟩:=jG h;obtain⟨fs,rfl,e2⟩:=isAg_get h1;exact⟨_,by simp only[jq,hd,zN,hk,if_true,nth_of e2,flds] <;> rfl,h⟩
  ·exact zh h
 ·exact zh h
theorem indexAddrX_run{t:TypeId}{x ix:AV}{k:Eff->Tr}(h:run call go (zBO E t x ix k)=some r):∃ef,jd E t x ix=some ef/\run call go (k ef)=some r:=by
 unfold zBO at h;obtain⟨td,hd,k1⟩:=zZ h;obtain⟨i,hi,k2⟩:=zZ k1;clear h k1;split at k2
 ·rename_i e hk;obtain⟨ed,he,h⟩:=zZ k2;clear k2;split at h
  ·rename_i sz xs;obtain⟨h1,h⟩:=zk h;obtain⟨h2,h⟩:=jG h;simp only[beq_iff_eq] at h1;simp only[decide_eq_true_eq] at h2;have hlt:i.toNat<xs.length:=by omega
   refine⟨_,?_,h⟩;simp only[jd,hd,zN,hi,hk,he,decide_eq_true (And.intro h1 h2.1),zY,nth_of hlt] <;> rfl
  ·obtain⟨h1,h⟩:=zk h;obtain⟨h2,h⟩:=jG h;simp only[beq_iff_eq] at h1;simp only[decide_eq_true_eq] at h2;exact⟨_,by simp only[jd,hd,zN,hi,hk,he,decide_eq_true (And.intro h1 h2),zY] <;> rfl,h⟩
  ·exact zh h
 ·rename_i tag n e hk;have h:=k2;clear k2;split at h
  ·obtain⟨h2,h⟩:=jG h;exact⟨_,by simp only[jd,hd,zN,hi,hk,h2,zY] <;> rfl,h⟩
  ·obtain⟨h2,h⟩:=jG h;obtain⟨h1,h⟩:=jG h;obtain⟨fs,rfl,e2⟩:=isAg_get h1;exact⟨_,by simp only[jd,hd,zN,hi,hk,if_true,h2,zY,nth_of e2,flds] <;> rfl,h⟩
  ·exact zh h
 ·exact zh k2
theorem indexX_run{t:TypeId}{x ix:AV}{k:Eff->Tr}(h:run call go (indexX E t x ix k)=some r):∃ef,Yy E t x ix=some ef/\run call go (k ef)=some r:=by
 unfold indexX at h;obtain⟨td,hd,k1⟩:=zZ h;obtain⟨i,hi,k2⟩:=zZ k1;clear h k1;split at k2
 ·rename_i tag n e hk;obtain⟨ed,he,h⟩:=zZ k2;obtain⟨h0,h⟩:=jG h;split at h
  ·obtain⟨h1,h⟩:=jG h;obtain⟨h2,h⟩:=shX_run he h;exact⟨_,by simp only[Yy,hd,zN,hi,hk,he,h0,zY,getF_isAg h1,h2] <;> rfl,h⟩
  ·obtain⟨h1,h⟩:=zk h;obtain⟨v,h2,h⟩:=zZ h;obtain⟨h3,h⟩:=zk h;simp only[beq_iff_eq] at h1;exact⟨_,by simp only[Yy,hd,zN,hi,hk,he,h0,zY,getF,h1,if_true,h2,h3] <;> rfl,h⟩
  ·exact zh h
 ·rename_i hk;have h:=k2;clear k2;split at h
  ·rename_i s;obtain⟨h1,h⟩:=jG h;simp only[decide_eq_true_eq] at h1;have hlt:i.toNat<s.size:=by omega
   refine⟨_,?_,h⟩;have e:s[i.toNat]? = some (s[i.toNat]?.getD 0):=by rw[getElem?_pos s i.toNat hlt];rfl
   simp only[Yy,hd,zN,hi,hk,decide_eq_true h1.1,zY];rw[e];rfl
  ·exact zh h
 ·exact zh k2
theorem Y9{d:Nat}{o:Option AV}{k:Nat->Tr}(h:run call go (boundX d o k)=some r):∃n,bound? d o=some n/\run call go (k n)=some r:=by
 unfold boundX at h;split at h
 ·exact⟨d,rfl,h⟩
 ·obtain⟨i,hi,h⟩:=zZ h;obtain⟨h1,h⟩:=jG h;exact⟨i.toNat,by simp only[bound?,hi,zN,h1,zY],h⟩
theorem sliceX_run{t:TypeId}{x:AV}{lo hi mx:Option AV}{k:Eff->Tr}(h:run call go (sliceX E t x lo hi mx k)=some r):∃ef,YM E t x lo hi mx=some ef/\run call go (k ef)=some r:=by
 unfold sliceX at h;obtain⟨td,hd,h⟩:=zZ h;split at h
 ·exact zh h
 obtain⟨l,hl,h⟩:=Y9 h;split at h
 ·rename_i hk;split at h
  ·obtain⟨m,hm,h⟩:=Y9 h;obtain⟨h1,h⟩:=jG h;simp only[decide_eq_true_eq] at h1;refine⟨_,?_,h⟩;simp only[YM,hd,zN,hl,hk,hm,h1.1,h1.2,Option.isNone_none,and_self,decide_true,zY];rfl
  ·exact zh h
 ·rename_i e hk;obtain⟨ed,he,h⟩:=zZ h;split at h
  ·obtain⟨h0,h⟩:=zk h;obtain⟨m,hm,h⟩:=Y9 h;obtain⟨h1,h⟩:=jG h;simp only[beq_iff_eq] at h0;simp only[decide_eq_true_eq] at h1;refine⟨_,?_,h⟩;simp only[YM,hd,zN,hl,hk,he,hm,h0,h1.1,h1.2,and_self,decide_true,zY];rfl
  ·obtain⟨m,hm,h⟩:=Y9 h;obtain⟨h1,h⟩:=jG h;simp only[decide_eq_true_eq] at h1;refine⟨_,?_,h⟩;simp only[YM,hd,zN,hl,hk,he,hm,h1.1,h1.2,and_self,decide_true,zY];rfl
  ·obtain⟨h0,h⟩:=zk h;obtain⟨m,hm,h⟩:=Y9 h;obtain⟨h1,h⟩:=jG h;simp only[beq_iff_eq] at h0;simp only[decide_eq_true_eq] at h1;refine⟨_,?_,h⟩;simp only[YM,hd,zN,hl,hk,he,hm,h0,h1.1,h1.2,Option.isNone_none,and_self,decide_true,zY];rfl
  ·exact zh h
 ·exact zh h
theorem mapX_run{hp:List (Option OB)}{m:AV}{k:List DV->List DV->Tr}(h:run call go (mapX hp m k)=some r):∃mv,Qn hp m=some mv/\run call go (k mv.1 mv.2)=some r:=by
 unfold mapX at h;split at h
 ·exact⟨_,rfl,h⟩
 ·exact⟨_,rfl,h⟩
 ·split at h
  ·rename_i hs;exact⟨_,by simp only[Qn,hs] <;> rfl,h⟩
  ·exact zh h
 ·exact zh h
theorem zAD{α:Type}{o:Option α}(h:o.isSome=true)(d:α):o=some (o.getD d):=by cases o <;> simp at h ⊢
theorem lookupX_run{t:TypeId}{hp:List (Option OB)}{m key:AV}{ok:Bool}{k:Eff->Tr}(h:run call go (lookupX E t hp m key ok k)=some r):∃ef,JN E t hp m key ok=some ef/\run call go (k ef)=some r:=by
 unfold lookupX at h;obtain⟨td,hd,k1⟩:=zZ h;clear h;split at k1
 ·rename_i kt et hk;obtain⟨kd,hkd,k2⟩:=zZ k1;obtain⟨ed,hed,h⟩:=zZ k2;clear k1 k2;split at h
  ·rename_i x;obtain⟨h1,h⟩:=zk h;obtain⟨mv,h2,h⟩:=mapX_run h;obtain⟨h3,h⟩:=jG h;obtain⟨q,hq⟩:=Option.isSome_iff_exists.1 h3;simp only[hq,Option.getD_some] at h;cases q with
   | some v =>
    rcases QE h with ⟨_,h⟩ | ⟨h4,h⟩
    ·obtain⟨h5,h⟩:=jG h;simp only[Qw _ _ _ h5] at h;exact⟨_,by simp only[JN,hd,zN,hk,hkd,hed,h1,zY,h2,hq] <;> rfl,h⟩
    ·simp at h4
   | none =>
    rcases QE h with ⟨h4,h⟩ | ⟨_,h⟩
    ·simp at h4
    ·exact⟨_,by simp only[JN,hd,zN,hk,hkd,hed,h1,zY,h2,hq] <;> rfl,h⟩
  ·exact zh h
 ·exact zh k1
theorem zAE{t:TypeId}{hp:List (Option OB)}{m key v:AV}{k:Eff->Tr}(h:run call go (Qm E t hp m key v k)=some r):∃ef,jP E t hp m key v=some ef/\run call go (k ef)=some r:=by
 unfold Qm at h;obtain⟨td,hd,h⟩:=zZ h;split at h
 ·rename_i kt et hk;obtain⟨kd,hkd,h⟩:=zZ h;obtain⟨ed,hed,h⟩:=zZ h;split at h
  ·obtain⟨h1,h⟩:=zk h;obtain⟨h2,h⟩:=zk h;split at h
   ·rename_i hs;obtain⟨h3,h⟩:=jG h;have e3:=zAD h3 ([],[]);refine⟨_,?_,h⟩;simp only[jP,hd,zN,hk,hkd,hed,h1,h2,zY,hs];rw[e3];rfl
   ·exact zh h
  ·exact zh h
 ·exact zh h
theorem nextX_run{hp:List (Option OB)}{s:Bool}{v:AV}{k:Eff->Tr}(h:run call go (nextX hp s v k)=some r):∃ef,Q6 hp s v=some ef/\run call go (k ef)=some r:=by
 unfold nextX at h;split at h
 ·obtain⟨h1,h⟩:=zk h;split at h
  ·rename_i hs;rcases QE h with ⟨h2,h⟩ | ⟨h2,h⟩
   ·simp only[decide_eq_true_eq] at h2;exact⟨_,by simp only[Q6,h1,zY,hs,h2,if_true],h⟩
   ·simp only[decide_eq_false_iff_not] at h2;exact⟨_,by simp only[Q6,h1,zY,hs,h2,if_false] <;> rfl,h⟩
  ·exact zh h
 ·exact zh h
theorem Js{f:AV->(DV->Tr)->Tr}{g:AV->Option DV}(hf:∀v k,run call go (f v k)=some r->∃x,g v=some x/\run call go (k x)=some r) :
  ∀{l:List AV} {k:List DV->Tr},run call go (zBM f l k)=some r->∃xs,mapO g l=some xs/\run call go (k xs)=some r
 | [],k,h=>⟨[],rfl,h⟩
 | v :: l,k,h=>by simp only[zBM] at h;obtain⟨x,h1,h⟩:=hf _ _ h;obtain⟨xs,h2,h⟩:=Js hf h;exact⟨x :: xs,by simp only[mapO,h1,h2],h⟩
theorem JT{hp:List (Option OB)}:∀(n:Nat) (v:AV) (k:DV->Tr),run call go (Q3 hp n v k)=some r->∃x,snap hp n v=some x/\run call go (k x)=some r
 | 0,v,k,h=>by
  simp only[Q3] at h;split at h
  ·exact⟨_,by simp only[snap],h⟩
  ·exact zh h
 | n+1,v,k,h=>by
  simp only[Q3] at h;split at h
  ·exact⟨_,by simp only[snap],h⟩
  ·split at h
   ·rename_i hs;obtain⟨h1,h⟩:=zk h;obtain⟨h2,h⟩:=jG h;simp only[beq_iff_eq] at h1;simp only[decide_eq_true_eq] at h2;exact⟨_,by simp only[snap,hs,h1,h2,and_self,if_true],h⟩
   ·rename_i hs;obtain⟨h1,h⟩:=zk h;simp only[Bool.and_eq_true,beq_iff_eq,decide_eq_true_eq] at h1;obtain⟨ds,h2,h⟩:=Js (λv k=>JT n v k) h
    exact⟨_,by simp only[snap,hs,h1.1,h1.2,and_self,if_true,h2],h⟩
   ·exact zh h
  ·obtain⟨ob,h1,h⟩:=zZ h;obtain⟨v,h2,h⟩:=getBX_run h;obtain⟨x,h3,h⟩:=zAi h;obtain⟨y,h4,h⟩:=JT n x _ h;obtain⟨h5,h⟩:=zk h;simp only[Bool.not_eq_true'] at h5;exact⟨_,by simp only[snap,h1,h2,h3,h4,h5] <;> rfl,h⟩
  ·split at h
   ·rename_i hs;exact⟨_,by simp only[snap,hs],h⟩
   ·exact zh h
  ·obtain⟨ds,h2,h⟩:=Js (λv k=>JT n v k) h
   exact⟨_,by simp only[snap,h2],h⟩
  ·obtain⟨ds,h2,h⟩:=Js (λv k=>JT n v k) h
   obtain⟨es,h3,h⟩:=Js (λv k=>JT n v k) h
   exact⟨_,by simp only[snap,h2,h3],h⟩
  ·exact zh h
theorem QB{hp:List (Option OB)}:∀vs:List AV,JY hp vs=mapO (snap hp zx) vs
 | []=>rfl
 | v :: r=>by
  simp only[JY,mapO,QB r];cases snap hp zx v <;> simp only[bnd_none,zN]
  cases mapO (snap hp zx) r <;> rfl
theorem snapL_app{hp:List (Option OB)}:∀{xs ys:List AV} {a b:List DV},JY hp xs=some a->JY hp ys=some b->JY hp (xs++ys)=some (a++b)
 | [],ys,a,b,h1,h2=>by simp only[JY,Option.some.injEq] at h1;subst h1;exact h2
 | x :: xs,ys,a,b,h1,h2=>by
  simp only[JY] at h1;cases hx:snap hp zx x with
  | none=>rw[hx] at h1;cases h1
  | some u =>
   rw[hx,zN] at h1;cases hs:JY hp xs with
   | none=>rw[hs] at h1;cases h1
   | some us =>
    rw[hs] at h1;simp only[zN,Option.some.injEq] at h1;subst h1;simp only[List.cons_append,JY,hx,zN,snapL_app hs h2]
theorem snap_d{hp:List (Option OB)}(n:Nat)(x:DV):snap hp n (.d x)=some x:=by cases n <;> rfl
theorem sites_d{hp:List (Option OB)}(n:Nat)(x:DV):sites hp n (.d x)=[]:=by cases n <;> rfl
theorem snapL_d{hp:List (Option OB)}:∀xs:List DV,JY hp (xs.map .d)=some xs
 | []=>rfl
 | x :: xs=>by simp only[List.map_cons,JY,snap_d,zN,snapL_d xs]
theorem sitesL_app{hp:List (Option OB)}:∀xs ys:List AV,jb hp (xs++ys)=jb hp xs++jb hp ys
 | [],ys=>rfl
 | x :: xs,ys=>by simp only[List.cons_append,jb,sitesL_app xs ys,List.append_assoc]
theorem sitesL_d{hp:List (Option OB)}:∀xs:List DV,jb hp (xs.map .d)=[]
 | []=>rfl
 | x :: xs=>by simp only[List.map_cons,jb,sites_d,sitesL_d xs,List.append_nil]
theorem elemsX_run{hp:List (Option OB)}{sz:Nat}{v:AV}{k:List DV->List Nat->Tr}(h:run call go (elemsX hp sz v k)=some r):∃el,jg hp sz v=some el/\run call go (k el.1 el.2)=some r:=by
 unfold elemsX at h;split at h
 ·exact⟨_,rfl,h⟩
 ·obtain⟨h1,h⟩:=zk h;simp only[beq_iff_eq] at h1;exact⟨_,by simp only[jg,h1,if_true] <;> rfl,h⟩
 ·obtain⟨h1,h⟩:=zk h;simp only[beq_iff_eq] at h1;split at h
  ·rename_i hs;obtain⟨h2,h⟩:=zk h;obtain⟨h3,h⟩:=jG h;simp only[beq_iff_eq] at h2;simp only[decide_eq_true_eq] at h3;exact⟨_,by simp only[jg,h1,if_true,hs,h2,h3,and_self] <;> rfl,h⟩
  ·rename_i hs;obtain⟨h2,h⟩:=zk h;simp only[Bool.and_eq_true,beq_iff_eq,decide_eq_true_eq] at h2;obtain⟨ds,h3,h⟩:=Js (λv k=>JT zx v k) h
   exact⟨_,by simp only[jg,h1,if_true,hs,h2.1,h2.2,and_self,h3] <;> rfl,h⟩
  ·exact zh h
 ·exact zh h
theorem baseX_run{hp:List (Option OB)}{sz:Nat}{v:AV}{k:List DV->Option Nat->Tr}(h:run call go (baseX hp sz v k)=some r):∃bs,YC hp sz v=some bs/\run call go (k bs.1 bs.2)=some r:=by
 unfold baseX at h;split at h
 ·exact⟨_,rfl,h⟩
 ·obtain⟨h1,h⟩:=zk h;simp only[Bool.and_eq_true,beq_iff_eq] at h1;split at h
  ·rename_i hs;obtain⟨h2,h⟩:=zk h;obtain⟨h3,h⟩:=jG h;simp only[beq_iff_eq] at h2;simp only[decide_eq_true_eq] at h3;exact⟨_,by simp only[YC,h1.1,h1.2,and_self,if_true,hs,h2,h3] <;> rfl,h⟩
  ·exact zh h
 ·exact zh h
theorem appendX_run{ts:List TypeId}{dst:Nat}{hp:List (Option OB)}{args:List AV}{k:Eff->Tr}(h:run call go (appendX E ts dst hp args k)=some r):∃ef,JQ E ts dst hp args=some ef/\run call go (k ef)=some r:=by
 unfold appendX at h;split at h
 ·split at h
  ·obtain⟨h1,h⟩:=zk h;obtain⟨td,hd,h⟩:=zZ h;split at h
   ·rename_i e hk;obtain⟨ed,he,h⟩:=zZ h;obtain⟨h2,h⟩:=zk h;obtain⟨bs,h3,h⟩:=baseX_run h;obtain⟨el,h4,h⟩:=elemsX_run h;obtain⟨h5,h⟩:=jG h;simp only[List.length_append] at h;simp only[decide_eq_true_eq] at h2 h5;have hg:decide (0<ed.size/\0<ed.bytes/\(2 * (bs.1.length+el.1.length)+200) * ed.bytes<=281474976710656)=true:=decide_eq_true ⟨h2.1,h2.2,h5⟩;split at h
    ·rename_i hb;rcases QE h with ⟨h6,h⟩ | ⟨h6,h⟩
     ·have e6:el.1=[]:=List.isEmpty_iff.1 h6;refine⟨_,?_,h⟩;simp only[JQ,h1,zY,hd,zN,hk,he,h3,h4,hg];simp only[hb,e6];rfl
     ·refine⟨_,?_,h⟩;simp only[JQ,h1,zY,hd,zN,hk,he,h3,h4,hg];simp only[hb];cases hel:el.1 with
      | nil=>rw[hel] at h6;simp at h6
      | cons a l=>rfl
    ·rename_i b hb;exact⟨_,by simp only[JQ,h1,zY,hd,zN,hk,he,h3,h4,hg,hb],h⟩
   ·exact zh h
  ·exact zh h
 ·exact zh h
theorem copyX_run{ts:List TypeId}{hp:List (Option OB)}{args:List AV}{k:Eff->Tr}(h:run call go (copyX E ts hp args k)=some r):∃ef,zAk E ts hp args=some ef/\run call go (k ef)=some r:=by
 unfold copyX at h;split at h
 ·split at h
  ·obtain⟨td,hd,h⟩:=zZ h;split at h
   ·rename_i e hk;obtain⟨ed,he,h⟩:=zZ h;split at h
    ·obtain⟨h1,h⟩:=zk h;split at h
     ·rename_i hs;obtain⟨h2,h⟩:=zk h;obtain⟨h3,h⟩:=jG h;obtain⟨el,h4,h⟩:=elemsX_run h;simp only[beq_iff_eq] at h2;simp only[decide_eq_true_eq] at h3;exact⟨_,by simp only[zAk,hd,zN,hk,he,h1,zY,hs,decide_eq_true (And.intro h2 h3),h4],h⟩
     ·exact zh h
    ·exact zh h
   ·exact zh h
  ·exact zh h
 ·exact zh h
def jt(E:Env)(call:FuncId->List DV->Option CR)(f:FuncId)(ds:List DV):Option CR:=call f (z1 E f ds)
theorem resX_run{ts:List TypeId}{x:DV}{k:DV->Tr}(h:run call go (resX E ts x k)=some r):run call go (k x)=some r:=by
 have many:∀{ts:List TypeId},run call go (gd (x.isTup && zP (hasT E shD) ts (tups x)) (k (.tup (expTL (expT E shD) ts (tups x) 0))))=some r->run call go (k x)=some r:=by
  intro ts h;obtain⟨h1,h⟩:=jG h;simp only[Bool.and_eq_true] at h1;rw[Qs (λt x=>Qw shD t x) h1.2] at h
  cases x with
  | tup xs=>exact h
  | _=>simp[DV.isTup] at h1
 unfold resX at h;split at h
 ·obtain⟨h1,h⟩:=jG h;rw[Qw _ _ _ h1] at h;exact h
 ·exact many h
theorem nodeX_run{dst:Nat}{o:Operand}{ty:TypeId}{f:FuncId}{ds:List DV}{ss:List Nat}{k:Eff->Tr}(h:run call go (nodeX E dst o ty f ds ss k)=some r) :
  ∃c,jt E call f ds=some c/\run call go (k (deliver dst ss c))=some r:=by
 unfold nodeX at h;split at h
 ·split at h
  ·split at h
   ·rcases QF h with ⟨x,h1,h⟩ | ⟨s,xs,h1,h⟩
    ·obtain⟨h2,h⟩:=jG h;have e:x=.nl:=by cases x <;> simp[isNl] at h2 <;> rfl
     subst e;exact⟨_,h1,h⟩
    ·obtain⟨h2,h3⟩:=jG h;simp only[beq_iff_eq] at h2;subst h2;exact⟨_,h1,h3⟩
   ·rcases QF h with ⟨x,h1,h⟩ | ⟨s,xs,h1,h⟩
    ·exact⟨_,h1,resX_run h⟩
    ·exact zh h
  ·exact zh h
 ·rcases QF h with ⟨x,h1,h⟩ | ⟨s,xs,h1,h⟩
  ·exact⟨_,h1,resX_run h⟩
  ·exact zh h
theorem callX1_run{dst:Nat}{hp:List (Option OB)}{o:Operand}{ty:TypeId}{f:AV}{args:List AV}{k:Eff->Tr}(h:run call go (callX1 E dst hp o ty f args k)=some r) :
  ∃ef,qN (jt E call) dst hp f args=some ef/\run call go (k ef)=some r:=by
 unfold callX1 at h;split at h
 ·rename_i g a c;obtain⟨ds,h1,h⟩:=Js (λv k=>JT zx v k) h
  obtain⟨cr,h2,h⟩:=nodeX_run h;rw[<-QB] at h1;refine⟨_,?_,h⟩;have e1:JY hp (a.map .d++args++c.map .d)=some (a++ds++c):=snapL_app (snapL_app (snapL_d a) h1) (snapL_d c);have e2:jb hp (a.map .d++args++c.map .d)=jb hp args:=by simp only[sitesL_app,sitesL_d,List.nil_append,List.append_nil]
  simp only[qN,YJ,zN,e1,e2,h2]
 ·rename_i g a c;obtain⟨ds,h1,h⟩:=Js (λv k=>JT zx v k) h
  obtain⟨cr,h2,h⟩:=nodeX_run h;rw[<-QB] at h1;refine⟨_,?_,h⟩;simp only[qN,YJ,zN,h1,h2]
 ·exact zh h
theorem eqX_run{t:TypeId}{neg:Bool}{x y:DV}{k:DV->Tr}(h:run call go (eqX E t neg x y k)=some r):∃b,eqOp E t x y=some b/\run call go (k (.bool (match neg with | true=>!b | false=>b)))=some r:=by unfold eqX at h;obtain⟨h1,h⟩:=jG h;refine⟨_,zAD h1 false,?_⟩;cases neg <;> exact h
theorem binX_run{op:BinOp}{t:TypeId}{x y:DV}{k:DV->Tr}(h:run call go (binX E op t x y k)=some r):∃z,binD E op t x y=some z/\run call go (k z)=some r:=by
 unfold binX at h;split at h
 ·split at h
  ·rename_i k1 a _ k2 b;unfold intX at h;split at h
   ·obtain⟨h1,h⟩:=zk h;obtain⟨h2,h⟩:=jG h;simp only[decide_eq_true_eq] at h1;simp only[Bool.not_eq_true',beq_eq_false_iff_ne,ne_eq] at h2;exact⟨_,by simp only[binD,h1,if_true,arithI,h2,if_false],h⟩
   ·obtain⟨h1,h⟩:=zk h;obtain⟨h2,h⟩:=jG h;simp only[decide_eq_true_eq] at h1;simp only[Bool.not_eq_true',beq_eq_false_iff_ne,ne_eq] at h2;exact⟨_,by simp only[binD,h1,if_true,arithI,h2,if_false],h⟩
   ·obtain⟨h2,h⟩:=jG h;simp only[decide_eq_true_eq] at h2;exact⟨_,by simp only[binD,shiftI,if_neg (Int.not_lt.2 h2)],h⟩
   ·obtain⟨h2,h⟩:=jG h;simp only[decide_eq_true_eq] at h2;exact⟨_,by simp only[binD,shiftI,if_neg (Int.not_lt.2 h2)],h⟩
   ·exact zZ h
  ·exact zh h
 ·split at h
  ·split at h
   ·obtain⟨h1,h⟩:=jG h;simp only[decide_eq_true_eq] at h1;exact⟨_,by simp only[binD,strS,if_neg (Int.not_lt.2 h1)],h⟩
   ·exact zZ h
  ·exact zh h
 ·rename_i h1 h2;split at h
  ·obtain⟨b,h3,h⟩:=eqX_run h;refine⟨_,?_,h⟩;cases x <;> first | exact absurd rfl (h1 _ _) | exact absurd rfl (h2 _) | (simp only[binD,h3,zN])
  ·obtain⟨b,h3,h⟩:=eqX_run h;refine⟨_,?_,h⟩;cases x <;> first | exact absurd rfl (h1 _ _) | exact absurd rfl (h2 _) | (simp only[binD,h3,zN])
  ·exact zh h
theorem opX_run{X:XC}{F:XF}{o:Oper}{tm:List AV}{hp:List (Option OB)}{k:Eff->Tr}(h:run call go (opX E X F o tm hp k)=some r) :
  ∃ef,effE E (jt E call) o.op (zc o) tm hp=some ef/\run call go (k ef)=some r:=by
 unfold opX at h;generalize o.op=op at h ⊢;cases op
 case pick c a b =>
  obtain⟨v,h1,h⟩:=zZ h;obtain⟨b0,h2,h⟩:=zZ h;rcases QE h with ⟨h3,h⟩ | ⟨h3,h⟩
  ·obtain⟨u,h4,h⟩:=zZ h;exact⟨_,by simp only[effE,h1,zN,h2,h3,h4] <;> rfl,h⟩
  ·obtain⟨u,h4,h⟩:=zZ h;exact⟨_,by simp only[effE,h1,zN,h2,h3,h4] <;> rfl,h⟩
 case binOp op t x y yt =>
  obtain⟨a,h1,h⟩:=zZ h;obtain⟨b,h2,h⟩:=zZ h;simp only at h;split at h
  ·split at h
   ·obtain⟨h3,h⟩:=zk h;obtain⟨z,h4,h⟩:=binX_run h;exact⟨_,by simp only[effE,h1,zN,h2,h3,zY,h4] <;> rfl,h⟩
   ·exact zh h
  ·exact zh h
 case load t a =>
  obtain⟨p,h1,h⟩:=zZ h;obtain⟨ef,h2,h⟩:=loadX_run h;exact⟨ef,by simp only[effE,h1,zN,h2],h⟩
 case store t a x =>
  obtain⟨p,h1,h⟩:=zZ h;obtain⟨v,h3,h⟩:=zZ h;obtain⟨ef,h2,h⟩:=storeX_run h;exact⟨ef,by simp only[effE,h1,h3,zN,h2],h⟩
 case makeSlice t l c =>
  obtain⟨p,h1,h⟩:=zZ h;obtain⟨v,h3,h⟩:=zZ h;obtain⟨ef,h2,h⟩:=makeSliceX_run h;exact⟨ef,by simp only[effE,h1,h3,zN,h2],h⟩
 case slice t x lo hi mx =>
  obtain⟨p,h1,h⟩:=zZ h;obtain⟨v,h3,h⟩:=zZ h;obtain⟨v2,h4,h⟩:=zZ h;obtain⟨v3,h5,h⟩:=zZ h;obtain⟨ef,h2,h⟩:=sliceX_run h;exact⟨ef,by simp only[effE,h1,h3,h4,h5,zN,h2],h⟩
 case fieldAddr t x i =>
  obtain⟨p,h1,h⟩:=zZ h;obtain⟨ef,h2,h⟩:=fieldAddrX_run h;exact⟨ef,by simp only[effE,h1,zN,h2],h⟩
 case indexAddr t x i =>
  obtain⟨p,h1,h⟩:=zZ h;obtain⟨v,h3,h⟩:=zZ h;obtain⟨ef,h2,h⟩:=indexAddrX_run h;exact⟨ef,by simp only[effE,h1,h3,zN,h2],h⟩
 case index t x i =>
  obtain⟨p,h1,h⟩:=zZ h;obtain⟨v,h3,h⟩:=zZ h;obtain⟨ef,h2,h⟩:=indexX_run h;exact⟨ef,by simp only[effE,h1,h3,zN,h2],h⟩
 case lookup t m key ok =>
  obtain⟨p,h1,h⟩:=zZ h;obtain⟨v,h3,h⟩:=zZ h;obtain⟨ef,h2,h⟩:=lookupX_run h;exact⟨ef,by simp only[effE,h1,h3,zN,h2],h⟩
 case mapUpdate t m key x =>
  obtain⟨p,h1,h⟩:=zZ h;obtain⟨v,h3,h⟩:=zZ h;obtain⟨v2,h4,h⟩:=zZ h;obtain⟨ef,h2,h⟩:=zAE h;exact⟨ef,by simp only[effE,h1,h3,h4,zN,h2],h⟩
 case insert t m key x =>
  obtain⟨p,h1,h⟩:=zZ h;obtain⟨v,h3,h⟩:=zZ h;obtain⟨v2,h4,h⟩:=zZ h;obtain⟨ef,h2,h⟩:=zAE h;exact⟨ef,by simp only[effE,h1,h3,h4,zN,h2],h⟩
 case next i s =>
  obtain⟨p,h1,h⟩:=zZ h;obtain⟨ef,h2,h⟩:=nextX_run h;exact⟨ef,by simp only[effE,h1,zN,h2],h⟩
 case call c =>
  simp only at h;split at h
  ·rename_i f hc;obtain⟨args,h1,h⟩:=zZ h;obtain⟨v,h3,h⟩:=zZ h;obtain⟨ef,h2,h⟩:=callX1_run h;exact⟨ef,by simp only[effE,h1,hc,h3,zN,h2],h⟩
  ·rename_i hc;obtain⟨args,h1,h⟩:=zZ h;obtain⟨ef,h2,h⟩:=appendX_run h;exact⟨ef,by simp only[effE,h1,hc,zN,h2],h⟩
  ·rename_i hc;obtain⟨args,h1,h⟩:=zZ h;obtain⟨ef,h2,h⟩:=copyX_run h;exact⟨ef,by simp only[effE,h1,hc,zN,h2],h⟩
  ·rename_i k1 k2 k3;obtain⟨ef,h1,h⟩:=zZ h;refine⟨ef,?_,h⟩;rw[<-h1];simp only[effE];cases hcc:c.callee with
   | value f=>exact absurd hcc (k1 f)
   | builtin b=>cases b <;> rfl
   | _=>rfl
 case makeFunc f a c =>
  obtain⟨ef,h1,h⟩:=zZ h;exact⟨ef,by cases f <;> exact h1,h⟩
 all_goals
  obtain⟨ef,h1,h⟩:=zZ h;exact⟨ef,h1,h⟩
end
end Go.Am
