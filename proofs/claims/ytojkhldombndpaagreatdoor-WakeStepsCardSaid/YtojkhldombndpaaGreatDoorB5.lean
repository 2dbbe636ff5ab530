/- The abstract machine, the contracts of the functions that are walked by hand, and the examples of the document. Part 5. -/
import Derived.Test.YtojkhldombndpaaGreatDoorB4
set_option linter.all false
namespace Go.Am
open Go.Proofs
open Go
structure Le(X:List Nat)(s t:St):Prop where
 tm:∀i:Nat,(s.tm[i]? = some AV.undef/\(t.tm[i]?).isSome=true)\/s.tm[i]? = t.tm[i]?
 hp:∀b:Nat,(s.hp[b]? = some none/\(t.hp[b]?).isSome=true/\b ∉ X)\/s.hp[b]? = t.hp[b]?
def HLe(hp hp':List (Option OB)):Prop:=∀b ob,slot hp b=some ob->slot hp' b=some ob
def Lev(v w:AV):Prop:=v=.undef\/v=w
theorem Le.hle{X:List Nat}{s t:St}(h:Le X s t):HLe s.hp t.hp:=by
 intro b ob hs;rw[JM] at hs ⊢;rcases h.hp b with ⟨h1,_⟩ | h1
 ·rw[h1] at hs;simp at hs
 ·rw[<-h1];exact hs
theorem Qv{α β:Type}{f g:α->Option β}(h:∀v x,f v=some x->g v=some x):∀{l:List α} {xs:List β},mapO f l=some xs->mapO g l=some xs
 | [],xs,e=>e
 | v :: l,xs,e=>by
  simp only[mapO] at e ⊢;cases h1:f v with
  | none=>simp[h1] at e
  | some x =>
   rw[h1] at e;simp only at e;cases h2:mapO f l with
   | none=>simp[h2] at e
   | some ys =>
    rw[h2] at e;simp only[h v x h1,Qv h h2];exact e
theorem qE{α β:Type}{f:α->Option β}:∀{l:List α} {xs:List β},mapO f l=some xs->∀v∈l,∃x,f v=some x
 | [],xs,e,v,hv=>by simp at hv
 | u :: l,xs,e,v,hv=>by
  simp only[mapO] at e;cases h1:f u with
  | none=>simp[h1] at e
  | some x =>
   rw[h1] at e;simp only at e;cases h2:mapO f l with
   | none=>simp[h2] at e
   | some ys =>
    rcases List.mem_cons.1 hv with rfl | hv
    ·exact⟨x,h1⟩
    ·exact qE h2 v hv
section
variable{hp hp':List (Option OB)}
theorem qc(h:HLe hp hp'):∀(n:Nat) (v:AV) (x:DV),snap hp n v=some x->snap hp' n v=some x
 | 0,v,x,e=>by cases v <;> simp only[snap] at e ⊢ <;> first | exact e | (split at e <;> first | (rename_i hs;rw[h _ _ hs];exact e) | cases e)
 | n+1,v,x,e=>by
  cases v with
  | d y=>exact e
  | undef=>exact e
  | own b off len sz =>
   simp only[snap] at e ⊢;split at e
   ·rename_i hs;rw[h _ _ hs];exact e
   ·rename_i hs;rw[h _ _ hs];simp only at e ⊢;split at e
    ·rename_i hc;rw[if_pos hc];split at e
     ·rename_i hm;rw[Qv (qc h n) hm];exact e
     ·cases e
    ·cases e
   ·cases e
  | ptr b sz e' p =>
   simp only[snap] at e ⊢;cases hs:slot hp b with
   | none=>simp[hs] at e
   | some ob =>
    rw[hs] at e;rw[h _ _ hs];simp only at e ⊢;cases hg:ob.blk.get sz e' with
    | none=>simp[hg] at e
    | some v =>
     rw[hg] at e;simp only at e ⊢;cases hx:getP p v with
     | none=>simp[hx] at e
     | some y =>
      rw[hx] at e;simp only at e ⊢;cases hy:snap hp n y with
      | none=>simp[hy] at e
      | some z=>rw[hy] at e;rw[qc h n y z hy];exact e
  | omp b=>simp only[snap] at e ⊢;split at e <;> first | (rename_i hs;rw[h _ _ hs];exact e) | cases e
  | it b=>exact e
  | agg tag fs =>
   simp only[snap] at e ⊢;split at e
   ·rename_i hm;rw[Qv (qc h n) hm];exact e
   ·cases e
  | fn f a c =>
   simp only[snap] at e ⊢;split at e
   ·rename_i hm hm2;rw[Qv (qc h n) hm,Qv (qc h n) hm2];exact e
   ·cases e
theorem qC(h:HLe hp hp'):∀(n:Nat) (v:AV) (x:DV),snap hp n v=some x->sites hp' n v=sites hp n v
 | 0,v,x,e=>by
  cases v <;> simp only[snap] at e <;> first | cases e;done | rfl
 | n+1,v,x,e=>by
  cases v with
  | d y=>rfl
  | undef=>rfl
  | own b off len sz =>
   simp only[snap] at e;simp only[sites];split at e
   ·rename_i hs;rw[hs,h _ _ hs]
   ·rename_i hs;rw[hs,h _ _ hs];simp only at e ⊢;split at e
    ·split at e
     ·rename_i hm;congr 1;exact jK λu hu=>by obtain⟨y,hy⟩:=qE hm u hu;exact qC h n u y hy
     ·cases e
    ·cases e
   ·cases e
  | ptr b sz e' p =>
   simp only[snap] at e;simp only[sites];cases hs:slot hp b with
   | none=>simp[hs] at e
   | some ob =>
    rw[hs] at e;rw[h _ _ hs];simp only at e ⊢;cases hg:ob.blk.get sz e' with
    | none=>simp[hg] at e
    | some v =>
     rw[hg] at e;simp only at e ⊢;cases hx:getP p v with
     | none=>simp[hx] at e
     | some y =>
      rw[hx] at e;simp only at e ⊢;cases hy:snap hp n y with
      | none=>simp[hy] at e
      | some z=>rw[qC h n y z hy]
  | omp b=>rfl
  | it b=>rfl
  | agg tag fs =>
   simp only[snap] at e;simp only[sites];split at e
   ·rename_i hm;exact jK λu hu=>by obtain⟨y,hy⟩:=qE hm u hu;exact qC h n u y hy
   ·cases e
  | fn f a c =>
   simp only[snap] at e;simp only[sites];split at e
   ·rename_i hm hm2;congr 1
    ·exact jK λu hu=>by obtain⟨y,hy⟩:=qE hm u hu;exact qC h n u y hy
    ·exact jK λu hu=>by obtain⟨y,hy⟩:=qE hm2 u hu;exact qC h n u y hy
   ·cases e
theorem snapL_le(h:HLe hp hp'){vs:List AV}{xs:List DV}(e:JY hp vs=some xs):JY hp' vs=some xs:=by rw[QB] at e ⊢;exact Qv (qc h zx) e
theorem sitesL_le(h:HLe hp hp'):∀{vs:List AV} {xs:List DV},JY hp vs=some xs->jb hp' vs=jb hp vs
 | [],xs,e=>rfl
 | v :: vs,xs,e=>by simp only[JY] at e;obtain⟨x,h1,e1⟩:=bind_some e;obtain⟨ys,h2,e2⟩:=bind_some e1;simp only[jb,qC h _ _ _ h1,sitesL_le h h2]
theorem snap_undef(n:Nat):snap hp n .undef=none:=by cases n <;> rfl
theorem snapL_noU{vs:List AV}{xs:List DV}(e:JY hp vs=some xs):∀v∈vs,v≠.undef:=by rw[QB] at e;intro v hv hu;obtain⟨x,hx⟩:=qE e v hv;subst hu;rw[snap_undef] at hx;cases hx
variable{E:Env}{X:List Nat}{s t:St}
theorem ev_le(h:Le X s t){x:Operand}{v:AV}(e:evO E s.tm x=some v):∃w,evO E t.tm x=some w/\Lev v w:=by
 cases x with
 | tmp i =>
  simp only[evO] at e ⊢;rcases h.tm i with ⟨h1,h2⟩ | h1
  ·rw[h1] at e;injection e with e
   cases ht:t.tm[i]? with
   | none=>rw[ht] at h2;simp at h2
   | some w=>exact⟨w,rfl,.inl e.symm⟩
  ·rw[<-h1];exact⟨v,e,.inr rfl⟩
 | const c=>exact⟨v,e,.inr rfl⟩
 | global g=>exact⟨v,e,.inr rfl⟩
 | func f=>exact⟨v,e,.inr rfl⟩
theorem Ji(h:Le X s t){x:Operand}{v:AV}(e:evO E s.tm x=some v)(hv:v≠.undef):evO E t.tm x=some v:=by
 obtain⟨w,h1,h2⟩:=ev_le h e;rcases h2 with h2 | h2
 ·exact absurd h2 hv
 ·rw[h2];exact h1
theorem Q8(h:Le X s t):∀{xs:List Operand} {vs:List AV},evL E s.tm xs=some vs->(∀v∈vs,v≠.undef)->evL E t.tm xs=some vs
 | [],vs,e,_=>e
 | x :: xs,vs,e,hn=>by
  simp only[evL] at e ⊢;obtain⟨v,h1,e1⟩:=bind_some e;obtain⟨us,h2,e2⟩:=bind_some e1;injection e2 with e2;subst e2
  rw[Ji h h1 (hn v (by simp)),zN,Q8 h h2 λu hu=>hn u (by simp[hu]),zN]
theorem zBT(h:Le X s t):∀{xs:List (Nat×Operand)} {vs:List (Nat×AV)},JO E s.tm xs=some vs->(∀v∈vs,v.2≠.undef)->JO E t.tm xs=some vs
 | [],vs,e,_=>e
 | (i,x) :: xs,vs,e,hn=>by
  simp only[JO] at e ⊢;obtain⟨v,h1,e1⟩:=bind_some e;obtain⟨us,h2,e2⟩:=bind_some e1;injection e2 with e2;subst e2
  rw[Ji h h1 (hn (i,v) (by simp)),zN,zBT h h2 λu hu=>hn u (by simp[hu]),zN]
theorem fill_noU{L:Nat->List Nat}{sizes:List Nat}:∀{ps:List (Nat×AV)} {vs ws:List AV},fill L sizes ps vs=some ws->∀p∈ps,p.2≠.undef
 | [],vs,ws,_,p,hp=>by simp at hp
 | (i,v) :: ps,vs,ws,e,p,hp=>by
  simp only[fill] at e;split at e
  ·rename_i hc;rcases List.mem_cons.1 hp with rfl | hp
   ·rintro hu;simp only at hu;rw[hu] at hc;simp[stores] at hc
   ·exact fill_noU e p hp
  ·cases e
theorem buildE_noU{t:TypeId}{ps:List (Nat×AV)}{ef:Eff}(e:Q9 E t ps=some ef):∀p∈ps,p.2≠.undef:=by
 have key:∀{tag:Nat} {z:DV},QV E tag z ps=some ef->∀p∈ps,p.2≠.undef:=by
  intro tag z e;unfold QV at e;split at e
  ·split at e
   ·obtain⟨fs,h1,_⟩:=bind_some e;exact fill_noU h1
   ·cases e
  ·cases e
 unfold Q9 at e;obtain⟨td,_,e1⟩:=bind_some e;split at e1
 ·exact key e1
 ·exact key e1
 ·cases e1
theorem buildSliceE_noU{t:TypeId}{d n:Nat}{ps:List (Nat×AV)}{ef:Eff}(e:JB E t d n ps=some ef):∀p∈ps,p.2≠.undef:=by
 unfold JB at e;obtain⟨td,_,e1⟩:=bind_some e;split at e1
 ·obtain⟨ed,_,e2⟩:=bind_some e1;obtain⟨_,e3⟩:=zJ e2;obtain⟨fs,h1,_⟩:=bind_some e3;exact fill_noU h1
 ·cases e1
def LeE(ef ef':Eff):Prop:=Lev ef.v ef'.v/\ef'.new=ef.new/\ef'.upd=ef.upd/\ef'.kil=ef.kil/\ef'.frz=ef.frz
theorem LeE.refl(ef:Eff):LeE ef ef:=⟨.inr rfl,rfl,rfl,rfl,rfl⟩
theorem mapOf_le(h:HLe hp hp'){m:AV}{r:List DV×List DV}(e:Qn hp m=some r):Qn hp' m=some r:=by
 unfold Qn at e ⊢;split at e
 ·exact e
 ·exact e
 ·split at e
  ·rename_i hs;simp only[h _ _ hs];exact e
  ·cases e
 ·cases e
theorem elemsOf_le(h:HLe hp hp'){sz:Nat}{v:AV}{r:List DV×List Nat}(e:jg hp sz v=some r):jg hp' sz v=some r:=by
 unfold jg at e ⊢;split at e
 ·exact e
 ·exact e
 ·split at e
  ·rename_i hs1;simp only[hs1,if_true] at e ⊢;split at e
   ·rename_i hs;rw[h _ _ hs];exact e
   ·rename_i hs;rw[h _ _ hs];simp only at e ⊢;split at e
    ·rename_i hc;rw[if_pos hc];split at e
     ·rename_i hm;rw[Qv (qc h _) hm];have:∀l:List AV,(∀v∈l,∃x,snap hp zx v=some x)->l.flatMap (sites hp' zx)=l.flatMap (sites hp zx):=λl hl =>
       jK λu hu=>by obtain⟨y,hy⟩:=hl u hu;exact qC h _ u y hy
      simp only;rw[this _ (qE hm)];exact e
     ·cases e
    ·cases e
   ·cases e
  ·cases e
 ·cases e
theorem baseOf_le(h:HLe hp hp'){sz:Nat}{v:AV}{r:List DV×Option Nat}(e:YC hp sz v=some r):YC hp' sz v=some r:=by
 unfold YC at e ⊢;split at e
 ·exact e
 ·split at e
  ·rename_i hs1;rw[if_pos hs1];split at e
   ·rename_i hs;rw[h _ _ hs];exact e
   ·cases e
  ·cases e
 ·cases e
theorem loadE_le(h:HLe hp hp'){t:TypeId}{a:AV}{ef:Eff}(e:YQ E t hp a=some ef):YQ E t hp' a=some ef:=by
 unfold YQ at e ⊢;obtain⟨td,hd,e1⟩:=bind_some e;rw[hd,zN];split at e1
 ·exact e1
 ·obtain⟨ob,hs,e2⟩:=bind_some e1;simp only[h _ _ hs,zN];exact e2
 ·cases e1
theorem storeE_le(h:HLe hp hp'){t:TypeId}{a x:AV}{ef:Eff}(e:Ym E t hp a x=some ef):Ym E t hp' a x=some ef:=by
 unfold Ym at e ⊢;obtain⟨td,hd,e1⟩:=bind_some e;rw[hd,zN];split at e1
 ·obtain⟨ob,hs,e2⟩:=bind_some e1;simp only[h _ _ hs,zN];exact e2
 ·cases e1
theorem lookupE_le(h:HLe hp hp'){t:TypeId}{m k:AV}{ok:Bool}{ef:Eff}(e:JN E t hp m k ok=some ef):JN E t hp' m k ok=some ef:=by
 unfold JN at e ⊢;obtain⟨td,hd,e1⟩:=bind_some e;rw[hd,zN];split at e1
 ·rename_i kt et hk;obtain⟨kd,hkd,e2⟩:=bind_some e1;obtain⟨ed,hed,e3⟩:=bind_some e2;simp only[hkd,hed,zN];split at e3
  ·obtain⟨h1,e4⟩:=zJ e3;obtain⟨mv,hm,e5⟩:=bind_some e4;simp only[h1,zY,mapOf_le h hm,zN];exact e5
  ·cases e3
 ·cases e1
theorem zAz(h:HLe hp hp'){t:TypeId}{m k v:AV}{ef:Eff}(e:jP E t hp m k v=some ef):jP E t hp' m k v=some ef:=by
 unfold jP at e ⊢;obtain⟨td,hd,e1⟩:=bind_some e;rw[hd,zN];split at e1
 ·rename_i kt et hk;obtain⟨kd,hkd,e2⟩:=bind_some e1;obtain⟨ed,hed,e3⟩:=bind_some e2;simp only[hkd,hed,zN];split at e3
  ·obtain⟨h1,e4⟩:=zJ e3;obtain⟨h2,e5⟩:=zJ e4;simp only[h1,h2,zY];split at e5
   ·rename_i hs;rw[h _ _ hs];exact e5
   ·cases e5
  ·cases e3
 ·cases e1
theorem nextE_le(h:HLe hp hp'){b:Bool}{v:AV}{ef:Eff}(e:Q6 hp b v=some ef):Q6 hp' b v=some ef:=by
 unfold Q6 at e ⊢;split at e
 ·obtain⟨h1,e1⟩:=zJ e;simp only[h1,zY];split at e1
  ·rename_i hs;rw[h _ _ hs];exact e1
  ·cases e1
 ·cases e
theorem callE_le(h:HLe hp hp'){call:FuncId->List DV->Option CR}{d:Nat}{f:AV}{args:List AV}{ef:Eff}(e:qN call d hp f args=some ef):qN call d hp' f args=some ef:=by unfold qN at e ⊢;obtain⟨c,h1,e1⟩:=bind_some e;obtain⟨ds,h2,e2⟩:=bind_some e1;rw[h1,zN,snapL_le h h2,zN,sitesL_le h h2];exact e2
theorem appendE_le(h:HLe hp hp'){ts:List TypeId}{d:Nat}{args:List AV}{ef:Eff}(e:JQ E ts d hp args=some ef):JQ E ts d hp' args=some ef/\∀v∈args,v≠.undef:=by
 unfold JQ at e ⊢;split at e
 ·rename_i s x;split at e
  ·obtain⟨h1,e1⟩:=zJ e;obtain⟨td,hd,e2⟩:=bind_some e1;simp only[h1,zY,hd,zN];split at e2
   ·obtain⟨ed,he,e3⟩:=bind_some e2;obtain⟨bs,hb,e4⟩:=bind_some e3;obtain⟨el,hl,e5⟩:=bind_some e4;simp only[he,zN,baseOf_le h hb,elemsOf_le h hl];refine⟨e5,λv hv=>?_⟩
    simp only[List.mem_cons,List.not_mem_nil,or_false] at hv;rcases hv with rfl | rfl
    ·rintro rfl;simp[YC] at hb
    ·rintro rfl;simp[jg] at hl
   ·cases e2
  ·cases e
 ·cases e
theorem copyE_le(h:HLe hp hp'){ts:List TypeId}{args:List AV}{ef:Eff}(e:zAk E ts hp args=some ef):zAk E ts hp' args=some ef/\∀v∈args,v≠.undef:=by
 unfold zAk at e ⊢;split at e
 ·rename_i s x;split at e
  ·obtain⟨td,hd,e2⟩:=bind_some e;simp only[hd,zN];split at e2
   ·obtain⟨ed,he,e3⟩:=bind_some e2;simp only[he,zN];split at e3
    ·obtain⟨h1,e4⟩:=zJ e3;simp only[h1,zY];split at e4
     ·rename_i hs;obtain⟨h2,e5⟩:=zJ e4;obtain⟨el,hl,e6⟩:=bind_some e5;rw[h _ _ hs];simp only[h2,zY,elemsOf_le h hl,zN];refine⟨e6,λv hv=>?_⟩
      simp only[List.mem_cons,List.not_mem_nil,or_false] at hv;rcases hv with rfl | rfl
      ·simp
      ·rintro rfl;simp[jg] at hl
     ·cases e4
    ·cases e3
   ·cases e2
  ·cases e
 ·cases e
theorem lenE_le(h:HLe hp hp'){ts:List TypeId}{args:List AV}{ef:Eff}(e:lenE E ts hp args=some ef):(lenE E ts hp' args=some ef/\∀v∈args,v≠.undef)\/(∃t n v,ts=[t]/\args=[v]/\ef={ v:=.d (.int .i64 n) }/\∀hp2 w,lenE E ts hp2 [w]=some ef):=by
 unfold lenE at e;split at e
 ·rename_i x;split at e
  ·rename_i t;obtain⟨td,hd,e2⟩:=bind_some e;split at e2
   ·rename_i hk;left;refine⟨by simp only[lenE,hd,zN,hk];exact e2,by simp⟩
   ·rename_i hk;left;refine⟨by simp only[lenE,hd,zN,hk];exact e2,by simp⟩
   ·rename_i hk;left;refine⟨by simp only[lenE,hd,zN,hk];exact e2,by simp⟩
   ·rename_i hk;left;refine⟨by simp only[lenE,hd,zN,hk];exact e2,by simp⟩
   ·rename_i hk;right;simp only[zj] at e2;injection e2 with e2
    exact⟨_,_,_,rfl,rfl,e2.symm,λhp2 w=>by simp only[lenE,hd,zN,hk,zj,e2]⟩
   ·rename_i hk;obtain⟨mv,hm,e3⟩:=bind_some e2;left;refine⟨by simp only[lenE,hd,zN,hk,mapOf_le h hm];exact e3,?_⟩
    intro v hv;simp only[List.mem_cons,List.not_mem_nil,or_false] at hv;rintro rfl;subst hv;simp[Qn] at hm
   ·cases e2
  ·cases e
 ·cases e
theorem foldI_noU{f:Int->Int->Int}{k:IntKind}:∀{a:Int} {vs:List AV} {m:Int},Y7 f k a vs=some m->∀v∈vs,v≠.undef
 | a,[],m,_,v,hv=>by simp at hv
 | a,u :: vs,m,e,v,hv=>by
  cases u with
  | d x =>
   cases x with
   | int k' b =>
    simp only[Y7] at e;split at e
    ·rcases List.mem_cons.1 hv with rfl | hv
     ·simp
     ·exact foldI_noU e v hv
    ·cases e
   | _=>simp[Y7] at e
  | _=>simp[Y7] at e
theorem maxE_noU{vs:List AV}{ef:Eff}(e:maxE vs=some ef):∀v∈vs,v≠.undef:=by
 unfold maxE at e;split at e
 ·obtain⟨m,h1,_⟩:=bind_some e;intro v hv;rcases List.mem_cons.1 hv with rfl | hv
  ·simp
  ·exact foldI_noU h1 v hv
 ·cases e
theorem minE_noU{vs:List AV}{ef:Eff}(e:minE vs=some ef):∀v∈vs,v≠.undef:=by
 unfold minE at e;split at e
 ·obtain⟨m,h1,_⟩:=bind_some e;intro v hv;rcases List.mem_cons.1 hv with rfl | hv
  ·simp
  ·exact foldI_noU h1 v hv
 ·cases e
theorem bound_noU{d n:Nat}{v:AV}(e:bound? d (some v)=some n):v≠.undef:=by rintro rfl;simp[bound?,asI] at e
theorem evOpt_st(h:Le X s t){x:Option Operand}{v:Option AV}(e:qp E s.tm x=some v)(hv:v≠some .undef):qp E t.tm x=some v:=by
 cases x with
 | none=>exact e
 | some o =>
  simp only[qp] at e ⊢;obtain⟨u,h1,e1⟩:=bind_some e;injection e1 with e1;subst e1
  rw[Ji h h1 (λhu=>hv (by rw[hu])),zN]
theorem sliceE_noU{t:TypeId}{x:AV}{lo hi mx:Option AV}{ef:Eff}(e:YM E t x lo hi mx=some ef):x≠.undef/\lo≠some .undef/\hi≠some .undef/\mx≠some .undef:=by
 have bn:∀{d n:Nat} {o:Option AV},bound? d o=some n->o≠some .undef:=by rintro d n o e rfl;exact bound_noU e rfl
 unfold YM at e;obtain⟨td,hd,e1⟩:=bind_some e;obtain⟨l,hl,e2⟩:=bind_some e1;split at e2
 ·obtain⟨m,hm,e3⟩:=bind_some e2;obtain⟨h1,e4⟩:=zJ e3;simp only[decide_eq_true_eq] at h1;refine⟨by simp,bn hl,bn hm,?_⟩
  rintro rfl;simp at h1
 ·obtain⟨ed,_,e3⟩:=bind_some e2;obtain⟨m,hm,e4⟩:=bind_some e3;obtain⟨h1,e5⟩:=zJ e4;refine⟨by simp,bn hl,bn hm,?_⟩
  rintro rfl;simp only at e5;obtain⟨q,hq,_⟩:=bind_some e5;exact bound_noU hq rfl
 ·obtain⟨ed,_,e3⟩:=bind_some e2;obtain⟨m,hm,e4⟩:=bind_some e3;obtain⟨h1,e5⟩:=zJ e4;refine⟨by simp,bn hl,bn hm,?_⟩
  rintro rfl;simp only at e5;obtain⟨q,hq,_⟩:=bind_some e5;exact bound_noU hq rfl
 ·obtain⟨ed,_,e3⟩:=bind_some e2;obtain⟨m,hm,e4⟩:=bind_some e3;obtain⟨h1,e5⟩:=zJ e4;simp only[decide_eq_true_eq] at h1;refine⟨by simp,bn hl,bn hm,?_⟩
  rintro rfl;simp at h1
 ·cases e2
theorem fits_noU{td:TD}{v:AV}(h:fits td v=true):v≠.undef:=by rintro rfl;unfold fits at h;split at h <;> simp at h
theorem effE_le(h:Le X s t){call:FuncId->List DV->Option CR}{op:Op}{d:Nat}{ef:Eff}(e:effE E call op d s.tm s.hp=some ef):∃ef',effE E call op d t.tm t.hp=some ef'/\LeE ef ef':=by
 have hh:=h.hle;have one:∀{x:Operand} {g g':AV->Option Eff},bnd (evO E s.tm x) g=some ef->(g .undef=some ef->False)->(∀v,g v=some ef->g' v=some ef)->∃ef',bnd (evO E t.tm x) g'=some ef'/\LeE ef ef':=by
  intro x g g' e hn hg;obtain⟨v,h1,e1⟩:=bind_some e;have hv:v≠.undef:=λhu=>hn (hu ▸ e1)
  exact⟨ef,by rw[Ji h h1 hv,zN];exact hg v e1,LeE.refl ef⟩
 have mv:∀{x:Operand},bnd (evO E s.tm x) zj=some ef->∃ef',bnd (evO E t.tm x) zj=some ef'/\LeE ef ef':=by
  intro x e;obtain⟨v,h1,e1⟩:=bind_some e;obtain⟨w,h2,h3⟩:=ev_le h h1;simp only[zj] at e1;injection e1 with e1;subst e1
  exact⟨{ v:=w },by rw[h2,zN];rfl,h3,rfl,rfl,rfl,rfl⟩
 cases op <;> simp only[effE] at e ⊢ <;> try (cases e;done)
 case move x=>exact mv e
 case assign x=>exact mv e
 case pick c a b =>
  obtain⟨v,h1,e1⟩:=bind_some e;obtain⟨b0,h2,e2⟩:=bind_some e1;rw[Ji h h1 (by rintro rfl;simp[asB] at h2),zN,h2,zN]
  exact mv e2
 case alloc ty=>exact⟨ef,e,LeE.refl ef⟩
 case box ty x =>
  refine one e (λe=>?_) λ_ h=>h
  obtain⟨td,_,e1⟩:=bind_some e;obtain⟨h1,_⟩:=zJ e1;simp only[Bool.and_eq_true] at h1;exact fits_noU h1.1 rfl
 case build ty ps =>
  obtain⟨vs,h1,e1⟩:=bind_some e;exact⟨ef,by rw[zBT h h1 (buildE_noU e1),zN];exact e1,LeE.refl ef⟩
 case buildSlice ty n ps =>
  obtain⟨vs,h1,e1⟩:=bind_some e;exact⟨ef,by rw[zBT h h1 (buildSliceE_noU e1),zN];exact e1,LeE.refl ef⟩
 case load ty a=>exact one e (λe=>by unfold YQ at e;obtain⟨td,_,e1⟩:=bind_some e;cases e1) λv e=>loadE_le hh e
 case store ty a x =>
  obtain⟨p,h1,e1⟩:=bind_some e;obtain⟨v,h2,e2⟩:=bind_some e1;have e3:=e2;unfold Ym at e3;obtain⟨td,_,e4⟩:=bind_some e3;split at e4
  ·obtain⟨ob,_,e5⟩:=bind_some e4;obtain⟨_,e6⟩:=zJ e5;obtain⟨hf,_⟩:=zJ e6;exact⟨ef,by rw[Ji h h1 (by simp),zN,Ji h h2 (fits_noU hf),zN];exact storeE_le hh e2,LeE.refl ef⟩
  ·cases e4
 case nilCheck x=>exact one e (λe=>by cases e) λ_ h=>h
 case binOp op ty x y yt =>
  obtain⟨a,h1,e1⟩:=bind_some e;obtain⟨b,h2,e2⟩:=bind_some e1;split at e2
  ·exact⟨ef,by rw[Ji h h1 (by simp),zN,Ji h h2 (by simp),zN];exact e2,LeE.refl ef⟩
  ·cases e2
 case unOp op ty x=>exact one e (λe=>by cases e) λ_ h=>h
 case convert a b x=>exact one e (λe=>by cases e) λ_ h=>h
 case makeFunc f a c =>
  cases f <;> simp only[effE] at e ⊢ <;> try (cases e;done)
  obtain⟨a1,h1,e1⟩:=bind_some e;obtain⟨c1,h2,e2⟩:=bind_some e1;obtain⟨hg,e3⟩:=zJ e2;simp only[Bool.and_eq_true] at hg;have ns:∀{l:List AV},Y2 l=true->∀v∈l,v≠.undef:=by
   intro l;induction l with
   | nil=>intro _ v hv;simp at hv
   | cons u l ih =>
    intro hs v hv;simp only[Y2,Bool.and_eq_true] at hs;rcases List.mem_cons.1 hv with rfl | hv
    ·rintro rfl;simp[stores] at hs
    ·exact ih hs.2 v hv
  exact⟨ef,by rw[Q8 h h1 (ns hg.1),zN,Q8 h h2 (ns hg.2),zN];exact e2,LeE.refl ef⟩
 case makeMap ty n=>exact⟨ef,e,LeE.refl ef⟩
 case makeSlice ty l c =>
  obtain⟨a,h1,e1⟩:=bind_some e;obtain⟨b,h2,e2⟩:=bind_some e1;have e3:=e2;unfold Jg at e3;obtain⟨td,_,e4⟩:=bind_some e3;split at e4
  ·obtain⟨ed,_,e5⟩:=bind_some e4;obtain⟨n,hn,e6⟩:=bind_some e5;obtain⟨m,hm,e7⟩:=bind_some e6;exact⟨ef,by rw[Ji h h1 (by rintro rfl;simp[asI] at hn),zN,Ji h h2 (by rintro rfl;simp[asI] at hm),zN];exact e2,LeE.refl ef⟩
  ·cases e4
 case slice ty x lo hi mx =>
  obtain⟨a,h1,e1⟩:=bind_some e;obtain⟨b,h2,e2⟩:=bind_some e1;obtain⟨c,h3,e3⟩:=bind_some e2;obtain⟨m,h4,e4⟩:=bind_some e3;obtain⟨n1,n2,n3,n4⟩:=sliceE_noU e4;exact⟨ef,by rw[Ji h h1 n1,zN,evOpt_st h h2 n2,zN,evOpt_st h h3 n3,zN,evOpt_st h h4 n4,zN];exact e4,LeE.refl ef⟩
 case fieldAddr ty x i =>
  refine one e (λe=>?_) λ_ h=>h
  unfold jq at e;obtain⟨td,_,e1⟩:=bind_some e;split at e1 <;> cases e1
 case field ty x i =>
  refine one e (λe=>?_) λ_ h=>h
  unfold zA3 at e;obtain⟨td,_,e1⟩:=bind_some e;split at e1
  ·obtain⟨_,_,e2⟩:=bind_some e1;obtain⟨_,_,e3⟩:=bind_some e2;obtain⟨_,h4,_⟩:=bind_some e3;simp[getF] at h4
  ·cases e1
 case indexAddr ty x i =>
  obtain⟨a,h1,e1⟩:=bind_some e;obtain⟨b,h2,e2⟩:=bind_some e1;have e3:=e2;unfold jd at e3;obtain⟨td,_,e4⟩:=bind_some e3;obtain⟨n,hn,e5⟩:=bind_some e4;have hb:b≠.undef:=by rintro rfl;simp[asI] at hn
  have ha:a≠.undef:=by
   rintro rfl;split at e5
   ·obtain⟨_,_,e6⟩:=bind_some e5;cases e6
   ·cases e5
   ·cases e5
  exact⟨ef,by rw[Ji h h1 ha,zN,Ji h h2 hb,zN];exact e2,LeE.refl ef⟩
 case index ty x i =>
  obtain⟨a,h1,e1⟩:=bind_some e;obtain⟨b,h2,e2⟩:=bind_some e1;have e3:=e2;unfold Yy at e3;obtain⟨td,_,e4⟩:=bind_some e3;obtain⟨n,hn,e5⟩:=bind_some e4;obtain⟨_,e6⟩:=zJ e5;have hb:b≠.undef:=by rintro rfl;simp[asI] at hn
  have ha:a≠.undef:=by
   rintro rfl;split at e6
   ·obtain⟨_,_,e7⟩:=bind_some e6;obtain⟨_,h8,_⟩:=bind_some e7;simp[getF] at h8
   ·cases e6
   ·cases e6
  exact⟨ef,by rw[Ji h h1 ha,zN,Ji h h2 hb,zN];exact e2,LeE.refl ef⟩
 case lookup ty m k ok =>
  obtain⟨a,h1,e1⟩:=bind_some e;obtain⟨b,h2,e2⟩:=bind_some e1;have e3:=e2;unfold JN at e3;obtain⟨td,_,e4⟩:=bind_some e3;split at e4
  ·obtain⟨_,_,e5⟩:=bind_some e4;obtain⟨_,_,e6⟩:=bind_some e5;split at e6
   ·obtain⟨_,e7⟩:=zJ e6;obtain⟨mv,hm,_⟩:=bind_some e7;exact⟨ef,by rw[Ji h h1 (by rintro rfl;simp[Qn] at hm),zN,Ji h h2 (by simp),zN];exact lookupE_le hh e2,LeE.refl ef⟩
   ·cases e6
  ·cases e4
 case mapUpdate ty m k x =>
  obtain⟨a,h1,e1⟩:=bind_some e;obtain⟨b,h2,e2⟩:=bind_some e1;obtain⟨c,h3,e2'⟩:=bind_some e2;have e3:=e2';unfold jP at e3;obtain⟨td,_,e4⟩:=bind_some e3;split at e4
  ·obtain⟨_,_,e5⟩:=bind_some e4;obtain⟨_,_,e6⟩:=bind_some e5;split at e6
   ·exact⟨ef,by rw[Ji h h1 (by simp),zN,Ji h h2 (by simp),zN,Ji h h3 (by simp),zN];exact zAz hh e2',LeE.refl ef⟩
   ·cases e6
  ·cases e4
 case insert ty m k x =>
  obtain⟨a,h1,e1⟩:=bind_some e;obtain⟨b,h2,e2⟩:=bind_some e1;obtain⟨c,h3,e2'⟩:=bind_some e2;have e3:=e2';unfold jP at e3;obtain⟨td,_,e4⟩:=bind_some e3;split at e4
  ·obtain⟨_,_,e5⟩:=bind_some e4;obtain⟨_,_,e6⟩:=bind_some e5;split at e6
   ·exact⟨ef,by rw[Ji h h1 (by simp),zN,Ji h h2 (by simp),zN,Ji h h3 (by simp),zN];exact zAz hh e2',LeE.refl ef⟩
   ·cases e6
  ·cases e4
 case range ty x =>
  obtain⟨td,hd,e1⟩:=bind_some e;rw[hd,zN];split at e1
  ·exact one e1 (λe=>by cases e) λ_ h=>h
  ·cases e1
 case next i b=>exact one e (λe=>by cases e) λv e=>nextE_le hh e
 case extract x i=>exact one e (λe=>by cases e) λ_ h=>h
 case call c =>
  obtain⟨args,h1,e1⟩:=bind_some e;split at e1
  ·rename_i f hc;obtain⟨v,h2,e2⟩:=bind_some e1;have e3:=e2;unfold qN at e3;obtain⟨c1,h3,e4⟩:=bind_some e3;obtain⟨ds,h4,e5⟩:=bind_some e4;have hv:v≠.undef:=by rintro rfl;simp[YJ] at h3
   have ha:∀u∈args,u≠.undef:=λu hu=>snapL_noU h4 u (by simp[hu])
   exact⟨ef,by rw[Q8 h h1 ha,zN];rw[Ji h h2 hv,zN];exact callE_le hh e2,LeE.refl ef⟩
  ·rename_i hc;obtain⟨e2,ha⟩:=appendE_le hh e1;exact⟨ef,by rw[Q8 h h1 ha,zN];exact e2,LeE.refl ef⟩
  ·rename_i hc;obtain⟨e2,ha⟩:=copyE_le hh e1;exact⟨ef,by rw[Q8 h h1 ha,zN];exact e2,LeE.refl ef⟩
  ·rename_i hc;rcases lenE_le hh e1 with ⟨e2,ha⟩ | ⟨ty,n,v,hts,rfl,rfl,hall⟩
   ·exact⟨ef,by rw[Q8 h h1 ha,zN];exact e2,LeE.refl ef⟩
   ·obtain⟨x,hx⟩:∃x,c.args.toList=[x]:=by
     cases hl:c.args.toList with
     | nil=>rw[hl] at h1;simp[evL] at h1
     | cons x r =>
      cases r with
      | nil=>exact⟨x,rfl⟩
      | cons y r =>
       rw[hl] at h1;simp only[evL] at h1;obtain⟨u,_,e2⟩:=bind_some h1;obtain⟨us,h3,e3⟩:=bind_some e2;obtain⟨u2,_,e4⟩:=bind_some h3;obtain⟨us2,_,e5⟩:=bind_some e4;injection e5 with e5;subst e5
       simp at e3
    rw[hx] at h1 ⊢;simp only[evL,zN] at h1 ⊢;obtain⟨u,h2,e2⟩:=bind_some h1;obtain⟨w,h3,_⟩:=ev_le h h2;rw[h3];simp only[zN];exact⟨_,hall _ _,LeE.refl _⟩
  ·rename_i hc;exact⟨ef,by rw[Q8 h h1 (maxE_noU e1),zN];exact e1,LeE.refl ef⟩
  ·rename_i hc;exact⟨ef,by rw[Q8 h h1 (minE_noU e1),zN];exact e1,LeE.refl ef⟩
  ·cases e1
end
section
variable{E:Env}{X:List Nat}{s t:St}{call:FuncId->List DV->Option CR}
theorem putT_get(tm:List AV)(d:Option Tmp)(v:AV)(i:Nat):(putT tm d v)[i]? = if d=some i then (tm[i]?).map λ_=>v else tm[i]?:=by
 cases d with
 | none=>simp[putT]
 | some k =>
  simp only[putT,Option.some.injEq];by_cases e:k=i
  ·subst e;rw[if_pos rfl];cases h:tm[k]? with
   | none =>
    have:=List.getElem?_eq_none_iff.1 h;rw[List.set_eq_of_length_le this,h];rfl
   | some u =>
    have hlt:k<tm.length:=(List.getElem?_eq_some_iff.1 h).1;rw[List.getElem?_set_self hlt];rfl
  ·rw[if_neg e,List.getElem?_set_ne e]
theorem Le.put(h:Le X s t)(d:Option Tmp){v w:AV}(hv:Lev v w)(hs ht:List (Option OB))(hp:∀b,(hs[b]? = some none/\(ht[b]?).isSome=true/\b ∉ X)\/hs[b]? = ht[b]?) :
  Le X { tm:=putT s.tm d v,hp:=hs } { tm:=putT t.tm d w,hp:=ht }:=by
 refine⟨λi=>?_,hp⟩
 simp only[putT_get];by_cases e:d=some i
 ·simp only[if_pos e];rcases h.tm i with ⟨h1,h2⟩ | h1
  ·rw[h1];cases ht:t.tm[i]? with
   | none=>rw[ht] at h2;simp at h2
   | some u =>
    rcases hv with rfl | rfl
    ·exact .inl ⟨rfl,rfl⟩
    ·exact .inr rfl
  ·rw[h1];rcases hv with rfl | rfl
   ·cases t.tm[i]? with
    | none=>exact .inr rfl
    | some u=>exact .inl ⟨rfl,rfl⟩
   ·exact .inr rfl
 ·simp only[if_neg e];exact h.tm i
theorem FF_none(ef:Eff)(k b:Nat):FF ef k b none=none\/∃blk,ef.new=some blk/\b=k/\∀o,FF ef k b o=some ⟨false,blk⟩:=by
 have e:F3 ef b (F2 ef b (F1 ef b none))=none:=by
  have h1:F1 ef b none=none:=by unfold F1;split <;> rfl
  have h2:F2 ef b none=none:=by unfold F2;cases ef.upd with | none=>rfl | some p=>obtain⟨u,blk⟩:=p;simp only;split <;> rfl
  rw[h1,h2];unfold F3;split <;> rfl
 unfold FF;rw[e];unfold F4;cases hn:ef.new with
 | none=>exact .inl rfl
 | some blk =>
  simp only;by_cases hb:b=k
  ·simp only[if_pos hb];exact .inr ⟨blk,rfl,hb,λ_=>rfl⟩
  ·simp only[if_neg hb];exact .inl trivial
theorem Le.apply(h:Le X s t){ef ef':Eff}(he:LeE ef ef')(d:Option Tmp)(k:Nat):Le X (zo ef d k s) (zo ef' d k t):=by
 obtain⟨hv,h1,h2,h3,h4⟩:=he;have hFF:FF ef' k=FF ef k:=by funext b o;unfold FF F1 F2 F3 F4;rw[h1,h2,h3,h4]
 have:=h.put d hv (zo ef d k s).hp (zo ef' d k t).hp λb=>?_
 ·exact this
 ·rw[J1,J1,hFF];rcases h.hp b with ⟨g1,g2,g3⟩ | g1
  ·rw[g1];cases ht:t.hp[b]? with
   | none=>rw[ht] at g2;simp at g2
   | some o =>
    simp only[Option.map_some];rcases FF_none ef k b with e | ⟨blk,_,_,e⟩
    ·rw[e];exact .inl ⟨rfl,rfl,g3⟩
    ·rw[e,e];exact .inr rfl
  ·rw[g1];exact .inr rfl
theorem Le.clear(h:Le X s t)(b:Nat):Le X (Am.clear b s) (Am.clear b t):=by
 refine⟨λi=>?_,λc=>?_⟩
 ·simp only[Am.clear,Yj,List.getElem?_map];rcases h.tm i with ⟨h1,h2⟩ | h1
  ·left;rw[h1];refine⟨rfl,?_⟩;cases ht:t.tm[i]? with
   | none=>rw[ht] at h2;simp at h2
   | some u=>rfl
  ·rw[h1];exact .inr rfl
 ·simp only[Am.clear];by_cases e:c=b
  ·subst e;right;rcases h.hp c with ⟨h1,h2,_⟩ | h1
   ·have l1:c<s.hp.length:=(List.getElem?_eq_some_iff.1 h1).1;have l2:c<t.hp.length:=by
     cases ht:t.hp[c]? with
     | none=>rw[ht] at h2;simp at h2
     | some u=>exact(List.getElem?_eq_some_iff.1 ht).1
    rw[List.getElem?_set_self (by simpa using l1),List.getElem?_set_self (by simpa using l2)]
   ·by_cases l1:c<s.hp.length
    ·have l2:c<t.hp.length:=by rw[List.getElem?_eq_getElem l1] at h1;exact(List.getElem?_eq_some_iff.1 h1.symm).1
     rw[List.getElem?_set_self (by simpa using l1),List.getElem?_set_self (by simpa using l2)]
    ·have l2:¬c<t.hp.length:=by
      rw[List.getElem?_eq_none (by omega)] at h1
      have:=List.getElem?_eq_none_iff.1 h1.symm;omega
     rw[List.getElem?_eq_none (by simp;omega),List.getElem?_eq_none (by simp;omega)]
  ·rw[List.getElem?_set_ne (Ne.symm e),List.getElem?_set_ne (Ne.symm e)];simp only[List.getElem?_map];rcases h.hp c with ⟨h1,h2,h3⟩ | h1
   ·left;rw[h1];refine⟨rfl,?_,h3⟩;cases ht:t.hp[c]? with
    | none=>rw[ht] at h2;simp at h2
    | some u=>rfl
   ·rw[h1];exact .inr rfl
theorem Le.more{Y:List Nat}(h:Le X s t)(hY:∀b∈Y,s.hp[b]? = t.hp[b]?):Le Y s t:=by
 refine⟨h.tm,λb=>?_⟩
 by_cases hb:b∈Y
 ·exact .inr (hY b hb)
 ·rcases h.hp b with ⟨h1,h2,_⟩ | h1
  ·exact .inl ⟨h1,h2,hb⟩
  ·exact .inr h1
theorem Le.less{Y:List Nat}(h:Le X s t)(hY:∀b∈Y,b∈X):Le Y s t :=
 h.more λb hb=>by
  rcases h.hp b with ⟨_,_,h1⟩ | h1
  ·exact absurd (hY b hb) h1
  ·exact h1
theorem zA9{b:Nat}{u:St}:(Am.clear b u).hp[b]? = (u.hp[b]?).map λ_=>none:=by
 simp only[Am.clear];by_cases l:b<u.hp.length
 ·rw[List.getElem?_set_self (by simpa using l),List.getElem?_eq_getElem l];rfl
 ·rw[List.getElem?_eq_none (by simp;omega),List.getElem?_eq_none (by omega)];rfl
theorem Le.len(h:Le X s t)(b:Nat):(s.hp[b]?).isSome=(t.hp[b]?).isSome:=by
 rcases h.hp b with ⟨h1,h2,_⟩ | h1
 ·rw[h1,h2];rfl
 ·rw[h1]
theorem Le.clearL:∀{L X:List Nat} {s t:St},Le X s t->Le (X++L) (Am.clearL L s) (Am.clearL L t)
 | [],X,s,t,h=>by simpa[Am.clearL] using h
 | b :: L,X,s,t,h=>by
  simp only[Am.clearL];have h1:Le (X++[b]) (Am.clear b s) (Am.clear b t):=by
   refine(h.clear b).more λc hc=>?_
   simp only[List.mem_append,List.mem_cons,List.not_mem_nil,or_false] at hc;by_cases e:c=b
   ·subst e;rw[zA9,zA9];have:=h.len c;cases h1:s.hp[c]? <;> cases h2:t.hp[c]? <;> simp[h1,h2] at this ⊢
   ·rcases hc with hc | hc
    ·rcases (h.clear b).hp c with ⟨_,_,k⟩ | k
     ·exact absurd hc k
     ·exact k
    ·exact absurd hc e
  have:=h1.clearL (L:=L);simpa[List.append_assoc] using this
theorem guardV_le(h:Le X s t){ops:List Oper}{o:Oper}{b:Bool}(e:jn ops o s.tm=some b):jn ops o t.tm=some b:=by
 unfold jn at e ⊢;split at e
 ·exact e
 ·split at e
  ·split at e
   ·rename_i i hi;rcases h.tm i with ⟨h1,h2⟩ | h1
    ·rw[h1] at e;simp at e
    ·rw[<-h1];exact e
   ·cases e
  ·cases e
theorem stepS_le(h:Le X s t){o:Oper}{s':St}(e:YE E call o s=some s'):∃t',YE E call o t=some t'/\Le X s' t':=by
 unfold YE at e ⊢;obtain⟨ef,h1,e1⟩:=bind_some e;obtain⟨h2,e2⟩:=zJ e1;obtain⟨ef',h3,h4⟩:=effE_le h h1;have hok:ef'.ok=ef.ok:=by unfold Eff.ok;rw[h4.2.2.1,h4.2.2.2.1,h4.2.2.2.2]
 rw[h3,zN,hok,h2,zY];have hn:=h4.2.1;rw[hn];cases hnew:ef.new with
 | none =>
  rw[hnew] at e2;simp only at e2 ⊢;injection e2 with e2;subst e2
  exact⟨_,rfl,h.apply h4 _ _⟩
 | some blk =>
  rw[hnew] at e2;simp only at e2 ⊢;obtain⟨h5,e3⟩:=zJ e2;injection e3 with e3;subst e3
  rw[h5,zY];exact⟨_,rfl,(h.clear _).apply h4 _ _⟩
theorem stepF_le(h:Le X s t){loud:Bool}{may:Option Nat}{o:Oper}(hX:owns o.op=true->o.dst.isSome=true->zc o∈X){s':St}(e:stepF E call loud may o s=some s'):∃t',stepF E call loud may o t=some t'/\Le X s' t':=by
 unfold stepF at e ⊢;obtain⟨ef,h1,e1⟩:=bind_some e;obtain⟨h2,e2⟩:=zJ e1;obtain⟨ef',h3,h4⟩:=effE_le h h1;have hok:(ef'.ok && (loud || (ef'.upd.isNone && (ef'.kil.isNone || ef'.kil == may))))=(ef.ok && (loud || (ef.upd.isNone && (ef.kil.isNone || ef.kil == may)))):=by unfold Eff.ok;rw[h4.2.2.1,h4.2.2.2.1,h4.2.2.2.2]
 rw[h3,zN,hok,h2,zY];rw[h4.2.1];cases hnew:ef.new with
 | none =>
  rw[hnew] at e2;simp only at e2 ⊢;injection e2 with e2;subst e2
  exact⟨_,rfl,h.apply h4 _ _⟩
 | some blk =>
  rw[hnew] at e2;simp only at e2 ⊢;obtain⟨h5,e3⟩:=zJ e2;injection e3 with e3;subst e3
  simp only[Bool.and_eq_true] at h5;have hin:zc o∈X:=hX ((QT h1).new (by rw[hnew];rfl)) h5.1.1
  have hsl:(slot t.hp (zc o)).isNone=true:=by
   rcases h.hp (zc o) with ⟨_,_,k⟩ | k
   ·exact absurd hin k
   ·rw[JM,<-k,<-JM];exact h5.2
  rw[h5.1.1,h5.1.2,hsl];exact⟨_,rfl,h.apply h4 _ _⟩
theorem runOps_le{ops:List Oper}{r:CR}:∀{l:List Oper} {s t:St} {K K':St->Option CR},Le X s t->(∀s t,Le X s t->K s=some r->K' t=some r) ->
  QG (YE E call) ops l s K=some r->QG (YE E call) ops l t K'=some r
 | [],s,t,K,K',h,hK,e=>hK s t h e
 | o :: l,s,t,K,K',h,hK,e=>by
  simp only[QG] at e ⊢;obtain⟨g,h1,e1⟩:=bind_some e;rw[guardV_le h h1,zN];cases g with
  | true =>
   simp only at e1 ⊢;obtain⟨s',h2,e2⟩:=bind_some e1;obtain⟨t',h3,h4⟩:=stepS_le h h2;rw[h3,zN];exact runOps_le h4 hK e2
  | false =>
   simp only at e1 ⊢;exact runOps_le (h.put o.dst (.inr rfl) s.hp t.hp h.hp) hK e1
theorem Qh{ops:List Oper}{r:CR}:∀{l:List (Oper×Bool)} {s t:St} {K K':St->Option CR},(∀o,(o,false)∈l->owns o.op=true->o.dst.isSome=true->zc o∈X)->Le X s t->(∀s t,Le X s t->K s=some r->K' t=some r) ->
  YL E call ops l s K=some r->YL E call ops l t K'=some r
 | [],s,t,K,K',_,h,hK,e=>hK s t h e
 | (o,pv) :: l,s,t,K,K',hX,h,hK,e=>by
  simp only[YL] at e ⊢;obtain⟨g,h1,e1⟩:=bind_some e;rw[guardV_le h h1,zN];have hX':∀o,(o,false)∈l->owns o.op=true->o.dst.isSome=true->zc o∈X:=λo ho=>hX o (by simp[ho])
  cases g with
  | true =>
   simp only at e1 ⊢;obtain⟨s',h2,e2⟩:=bind_some e1;cases pv with
   | true =>
    simp only at h2 ⊢;obtain⟨t',h3,h4⟩:=stepS_le h h2;rw[h3,zN];exact Qh hX' h4 hK e2
   | false =>
    simp only at h2 ⊢;obtain⟨t',h3,h4⟩:=stepF_le h (hX o (by simp)) h2
    rw[h3,zN];exact Qh hX' h4 hK e2
  | false =>
   simp only at e1 ⊢;exact Qh hX' (h.put o.dst (.inr rfl) s.hp t.hp h.hp) hK e1
theorem runRegion_le{ops:List Oper}{draw:Bool}{r:CR}{K K':St->Option CR}(h:Le [] s t)(hK:∀s t,Le [] s t->K s=some r->K' t=some r)
  (e:JU E call ops draw s K=some r):JU E call ops draw t K'=some r:=by
 cases draw with
 | false=>exact runOps_le h hK e
 | true =>
  simp only[JU] at e ⊢;obtain⟨h1,e1⟩:=zJ e;rw[h1,zY];have h2:=h.clearL (L:=anews ops);refine Qh (λo ho hw hd=>?_) h2 (λs t hst=>hK s t (hst.less (by simp))) e1
  rw[List.mem_map] at ho;obtain⟨⟨o',i⟩,hm,ho⟩:=ho;simp only[Prod.mk.injEq] at ho;obtain⟨rfl,hpv⟩:=ho;have hi:ops[i]? = some o':=by have:=List.mem_zipIdx_iff_getElem?.1 hm;simpa using this
  obtain⟨d,hd'⟩:=Option.isSome_iff_exists.1 hd;simp only[List.nil_append,zc,hd',Option.getD_some];exact mem_anews hi hpv hw hd'
def Mono(r:CR)(K K':Ex->St->Option CR):Prop:=∀e s t,Le [] s t->K e s=some r->K' e t=some r
theorem thenK_le{r:CR}{f f':St->Option CR}{K K':Ex->St->Option CR}(hf:∀s t,Le [] s t->f s=some r->f' t=some r)(hK:Mono r K K'):Mono r (qm f K) (qm f' K'):=by
 intro e s t h1 h2;cases e with
 | normal=>exact hf s t h1 h2
 | exit i=>exact hK (.exit i) s t h1 h2
 | ret=>exact hK .ret s t h1 h2
theorem blockK_le{r:CR}{K K':Ex->St->Option CR}(id:Nat)(hK:Mono r K K'):Mono r (QW id K) (QW id K'):=by
 intro e s t h1 h2;cases e with
 | normal=>exact hK .normal s t h1 h2
 | ret=>exact hK .ret s t h1 h2
 | exit i =>
  simp only[QW] at h2 ⊢;split at h2
  ·rename_i he;rw[if_pos he];exact hK .normal s t h1 h2
  ·rename_i he;rw[if_neg he];exact hK (.exit i) s t h1 h2
theorem loopN_le{r:CR}{body:St->(Ex->St->Option CR)->Option CR}(hb:∀s t K K',Le [] s t->Mono r K K'->body s K=some r->body t K'=some r) :
  ∀(n:Nat) {s t:St} {K K':Ex->St->Option CR},Le [] s t->Mono r K K'->Qo body n s K=some r->Qo body n t K'=some r
 | 0,s,t,K,K',h,hK,e=>by simp[Qo] at e
 | n+1,s,t,K,K',h,hK,e=>hb s t _ _ h (thenK_le (λs t hst e=>loopN_le hb n hst hK e) hK) e
theorem exec_le{r:CR}{m:Nat}:∀(c:Code) {s t:St} {K K':Ex->St->Option CR},Le [] s t->Mono r K K'->exec E m call c s K=some r->exec E m call c t K'=some r:=by
 intro c;induction c with
 | skip=>intro s t K K' h hK e;exact hK .normal s t h e
 | label l=>intro s t K K' h hK e;exact hK .normal s t h e
 | region id ops draw=>intro s t K K' h hK e;exact runRegion_le h (λs t hst=>hK .normal s t hst) e
 | seq a b iha ihb=>intro s t K K' h hK e;exact iha h (thenK_le (λs t hst e=>ihb hst hK e) hK) e
 | cond c a b iha ihb =>
  intro s t K K' h hK e;simp only[exec] at e ⊢;obtain⟨v,h1,e1⟩:=bind_some e;obtain⟨x,h2,e2⟩:=bind_some e1;rw[Ji h h1 (by rintro rfl;simp[asB] at h2),zN,h2,zN]
  cases x with
  | true=>exact iha h hK e2
  | false=>exact ihb h hK e2
 | block id c ih=>intro s t K K' h hK e;exact ih h (blockK_le id hK) e
 | scope c ih=>intro s t K K' h hK e;exact ih h hK e
 | loop c ih=>intro s t K K' h hK e;exact loopN_le (λs t K K' h hK e=>ih h hK e) m h hK e
 | exit id=>intro s t K K' h hK e;exact hK (.exit id) s t h e
 | ret=>intro s t K K' h hK e;exact hK .ret s t h e
 | _=>intro s t K K' h hK e;simp[exec] at e
theorem retVs_le(h:Le [] s t):∀{rs:List ResultVar} {vs:List AV},retVs E s rs=some vs->(∀v∈vs,v≠.undef)->retVs E t rs=some vs
 | [],vs,e,_=>e
 | x :: rs,vs,e,hn=>by
  simp only[retVs] at e ⊢;obtain⟨v,h1,e1⟩:=bind_some e;obtain⟨us,h2,e2⟩:=bind_some e1;injection e2 with e2;subst e2
  rw[retVs_le h h2 λu hu=>hn u (by simp[hu])]
  have hv:v≠.undef:=hn v (by simp)
  have:retV1 E t x=some v:=by
   cases x with
   | tmp i =>
    simp only[retV1] at h1 ⊢;rcases h.tm i with ⟨g1,_⟩ | g1
    ·rw[g1] at h1;injection h1 with h1;exact absurd h1.symm hv
    ·rw[<-g1];exact h1
   | cell a ty =>
    simp only[retV1] at h1 ⊢;obtain⟨p,g1,e3⟩:=bind_some h1;obtain⟨ef,g2,e4⟩:=bind_some e3;have hp:p≠.undef:=by rintro rfl;unfold YQ at g2;obtain⟨td,_,e5⟩:=bind_some g2;cases e5
    rcases h.tm a with ⟨k1,_⟩ | k1
    ·rw[k1] at g1;injection g1 with g1;exact absurd g1.symm hp
    ·rw[<-k1,g1,zN,loadE_le h.hle g2,zN];exact e4
  rw[this];rfl
theorem freshR_noU{v:AV}{r:CR}(e:Q7 s v=some r):v≠.undef:=by rintro rfl;simp[Q7] at e
theorem freshR_le(h:Le [] s t){v:AV}{r:CR}(e:Q7 s v=some r):Q7 t v=some r:=by
 unfold Q7 at e ⊢;split at e
 ·exact e
 ·split at e
  ·rename_i hs;rw[h.hle _ _ hs];exact e
  ·cases e
 ·cases e
theorem fin_le(h:Le [] s t){fresh:Bool}{fn:Func}{r:CR}(e:fin E fresh fn s=some r):fin E fresh fn t=some r:=by
 unfold fin at e ⊢;obtain⟨vs,h1,e1⟩:=bind_some e;split at e1
 ·rename_i v;cases fresh with
  | true =>
   simp only at e1;rw[retVs_le h h1 (by intro u hu;simp only[List.mem_cons,List.not_mem_nil,or_false] at hu;subst hu;exact freshR_noU e1),zN]
   exact freshR_le h e1
  | false =>
   simp only at e1;obtain⟨x,h2,e2⟩:=bind_some e1;rw[retVs_le h h1 (by intro u hu;simp only[List.mem_cons,List.not_mem_nil,or_false] at hu;subst hu;rintro rfl;rw[snap_undef] at h2;cases h2),zN]
   simp only[qc h.hle _ _ _ h2,zN];exact e2
 ·rename_i hne;obtain⟨xs,h2,e2⟩:=bind_some e1;rw[retVs_le h h1 (snapL_noU h2),zN];split
  ·rename_i v;exact absurd rfl (hne v)
  ·rw[snapL_le h.hle h2,zN];exact e2
end
theorem keepT_get(live:List Nat):∀(n:Nat) (tm:List AV) (i:Nat),((keepT live n tm)[i]? = some .undef/\(tm[i]?).isSome=true)\/(keepT live n tm)[i]? = tm[i]?
 | n,[],i=>.inr rfl
 | n,v :: r,0=>by
  simp only[keepT,List.getElem?_cons_zero];split
  ·exact .inr rfl
  ·exact .inl ⟨rfl,rfl⟩
 | n,v :: r,i+1=>by simp only[keepT,List.getElem?_cons_succ];exact keepT_get live (n+1) r i
theorem keepH_get(ss:List Nat):∀(n:Nat) (hp:List (Option OB)) (b:Nat),((keepH ss n hp)[b]? = some none/\(hp[b]?).isSome=true)\/(keepH ss n hp)[b]? = hp[b]?
 | n,[],b=>.inr rfl
 | n,o :: r,0=>by
  simp only[keepH,List.getElem?_cons_zero];split
  ·exact .inr rfl
  ·exact .inl ⟨rfl,rfl⟩
 | n,o :: r,b+1=>by simp only[keepH,List.getElem?_cons_succ];exact keepH_get ss (n+1) r b
theorem JW(L:List Nat)(st:St):Le [] (forget L st) st:=by
 refine⟨keepT_get L 0 st.tm,λb=>?_⟩
 rcases keepH_get ((keepT L 0 st.tm).flatMap (reach st.hp zx)) 0 st.hp b with ⟨h1,h2⟩ | h1
 ·exact .inl ⟨h1,h2,by simp⟩
 ·exact .inr h1
end Go.Am
namespace Go.Am
open Go.Proofs
open Go Go.RowKit
theorem frcV_eq(v:AV)(k:AV->Tr):frcV v k=k v:=by cases v <;> rfl
theorem frcL_eq:∀(l:List AV) (k:List AV->Tr),frcL l k=k l
 | [],k=>rfl
 | v :: r,k=>by simp only[frcL,frcV_eq,frcL_eq r]
theorem frcB_eq(b:Blk)(k:Blk->Tr):frcB b k=k b:=by cases b <;> simp only[frcB,frcL_eq]
theorem frcZ_eq(z:Bool)(k:Bool->Tr):frcZ z k=k z:=by cases z <;> rfl
theorem frcH_eq:∀(l:List (Option OB)) (k:List (Option OB)->Tr),frcH l k=k l
 | [],k=>rfl
 | none :: r,k=>by simp only[frcH,frcH_eq r]
 | some ⟨z,b⟩ :: r,k=>by simp only[frcH,frcZ_eq,frcB_eq,frcH_eq r]
theorem zA0(st:St)(k:St->Tr):frc st k=k st:=by simp only[frc,frcL_eq,frcH_eq]
theorem set_same{l:List AV}{i:Nat}{v:AV}(h:l[i]? = some v):l.set i v=l:=by
 apply List.ext_getElem?;intro j;by_cases e:i=j
 ·subst e;have hlt:i<l.length:=(List.getElem?_eq_some_iff.1 h).1;rw[List.getElem?_set_self hlt,h]
 ·rw[List.getElem?_set_ne e]
section
variable{E:Env}{X:XC}{F:XF}{call:FuncId->List DV->Option CR}{go:Nat->St->Option CR}{r:CR}
theorem guardX_run{ops:List Oper}{o:Oper}{tm:List AV}{k:Bool->List AV->Tr}(h:run call go (guardX ops o tm k)=some r):∃b,jn ops o tm=some b/\run call go (k b tm)=some r:=by
 unfold guardX at h;unfold jn;split at h
 ·rename_i hg;rw[hg];exact⟨true,rfl,h⟩
 ·rename_i j want hg;rw[hg];simp only;split at h
  ·rename_i g hj;rw[hj];simp only;split at h
   ·rename_i t ht;rw[ht];simp only;split at h
    ·rename_i b hb;rw[hb];simp only;rcases QE h with ⟨h1,h⟩ | ⟨h1,h⟩
     ·subst h1;rw[set_same hb] at h;cases want
      ·exact⟨false,rfl,h⟩
      ·exact⟨true,rfl,h⟩
     ·subst h1;rw[set_same hb] at h;cases want
      ·exact⟨true,rfl,h⟩
      ·exact⟨false,rfl,h⟩
    ·rename_i hb;rw[hb];exact⟨false,rfl,h⟩
    ·exact zh h
   ·exact zh h
  ·exact zh h
theorem setK_eq:∀(l:List AV) (i:Nat) (v:AV) (k:List AV->Tr),setK l i v k=k (l.set i v)
 | [],i,v,k=>rfl
 | x :: r,0,v,k=>by simp only[setK,frcV_eq,List.set_cons_zero]
 | x :: r,n+1,v,k=>by simp only[setK,setK_eq r n v,List.set_cons_succ]
theorem putK'_eq(tm:List AV)(d:Option Tmp)(v:AV)(k:List AV->Tr):putK' tm d v k=k (putT tm d v):=by
 cases d with
 | none=>rfl
 | some t=>exact setK_eq tm t v k
theorem quiet_eff{ef:Eff}(h:ef.quiet=true):ef={ v:=ef.v }:=by obtain⟨v,n,u,k,f⟩:=ef;unfold Eff.quiet at h;cases n <;> cases u <;> cases k <;> cases f <;> simp at h ⊢
theorem stepSX_run{o:Oper}{st:St}{k:St->Tr}(h:run call go (stepSX E X F o st k)=some r):∃st',YE E (jt E call) o st=some st'/\run call go (k st')=some r:=by
 unfold stepSX at h;obtain⟨ef,h1,h0⟩:=opX_run h;clear h;cases hq:ef.quiet with
 | true =>
  rw[hq] at h0;simp only at h0;rw[putK'_eq] at h0;have e:=quiet_eff hq;refine⟨⟨putT st.tm o.dst ef.v,st.hp⟩,?_,h0⟩;unfold YE;rw[h1,zN,e];simp[Eff.ok,zo,freezeL,updB,kilB]
 | false =>
 rw[hq] at h0;have h:=h0;clear h0;obtain⟨h2,h⟩:=zk h;unfold YE;rw[h1,zN,h2,zY];split at h
 ·rename_i hn;rw[zA0] at h;rw[hn];exact⟨_,rfl,h⟩
 ·rename_i b hn;obtain⟨h3,h⟩:=zk h;rw[zA0] at h;rw[hn];simp only[h3,zY];exact⟨_,rfl,h⟩
theorem stepFX_run{loud:Bool}{may:Option Nat}{o:Oper}{st:St}{k:St->Tr}(h:run call go (stepFX E X F loud may o st k)=some r):∃st',stepF E (jt E call) loud may o st=some st'/\run call go (k st')=some r:=by
 unfold stepFX at h;obtain⟨ef,h1,h0⟩:=opX_run h;clear h;cases hq:ef.quiet with
 | true =>
  rw[hq] at h0;simp only at h0;rw[putK'_eq] at h0;have e:=quiet_eff hq;refine⟨⟨putT st.tm o.dst ef.v,st.hp⟩,?_,h0⟩;unfold stepF;rw[h1,zN,e];simp[Eff.ok,zo,freezeL,updB,kilB]
 | false =>
 rw[hq] at h0;have h:=h0;clear h0;obtain⟨h2,h⟩:=zk h;unfold stepF;rw[h1,zN,h2,zY];split at h
 ·rename_i hn;rw[zA0] at h;rw[hn];exact⟨_,rfl,h⟩
 ·rename_i b hn;obtain⟨h3,h⟩:=zk h;rw[zA0] at h;rw[hn];simp only[h3,zY];exact⟨_,rfl,h⟩
theorem zAK{ops:List Oper}:∀{l:List Oper} {st:St} {Kx:St->Tr} {K:St->Option CR},(∀st,run call go (Kx st)=some r->K st=some r) ->
  run call go (runOpsX E X F ops l st Kx)=some r->QG (YE E (jt E call)) ops l st K=some r
 | [],st,Kx,K,hK,h=>hK st h
 | o :: l,st,Kx,K,hK,h=>by
  simp only[runOpsX] at h;obtain⟨b,h1,h⟩:=guardX_run h;simp only[QG,h1,zN];cases b with
  | true =>
   obtain⟨st',h2,h⟩:=stepSX_run h;have h2':YE E (jt E call) o st=some st':=h2;simp only[h2',zN];exact zAK hK h
  | false=>exact zAK hK h
theorem Yp{ops:List Oper}:∀{l:List (Oper×Bool)} {st:St} {Kx:St->Tr} {K:St->Option CR},(∀st,run call go (Kx st)=some r->K st=some r) ->
  run call go (QH E X F ops l st Kx)=some r->YL E (jt E call) ops l st K=some r
 | [],st,Kx,K,hK,h=>hK st h
 | (o,pv) :: l,st,Kx,K,hK,h=>by
  simp only[QH] at h;obtain⟨b,h1,h⟩:=guardX_run h;simp only[YL,h1,zN];cases b with
  | true =>
   cases pv with
   | true =>
    obtain⟨st',h2,h⟩:=stepSX_run h;have h2':YE E (jt E call) o st=some st':=h2;simp only[h2',zN];exact Yp hK h
   | false =>
    obtain⟨st',h2,h⟩:=stepFX_run h;have h2':stepF E (jt E call) (cls ops o.op).loud (qK ops o.op) o st=some st':=h2;simp only[h2',zN];exact Yp hK h
  | false=>exact Yp hK h
theorem runRegionX_run{ops:List Oper}{draw:Bool}{st:St}{Kx:St->Tr}{K:St->Option CR}(hK:∀st,run call go (Kx st)=some r->K st=some r)
  (h:run call go (zBI E X F ops draw st Kx)=some r):JU E (jt E call) ops draw st K=some r:=by
 cases draw with
 | false=>exact zAK hK h
 | true =>
  simp only[zBI] at h;obtain⟨h1,h⟩:=zk h;rw[zA0] at h;simp only[JU,h1,zY];exact Yp hK h
theorem setTm_eq{st:St}{c:Operand}{v:AV}{b:Bool}(h1:evO E st.tm c=some v)(h2:asB v=some b):setTm st c b=st:=by
 cases c with
 | tmp t =>
  simp only[evO] at h1;have hv:v=.d (.bool b):=by
   unfold asB at h2;split at h2
   ·injection h2 with h2;rw[h2]
   ·cases h2
  subst hv;simp only[setTm,set_same h1]
 | _=>rfl
end
section
variable{E:Env}{X:XC}{F:XF}{call:FuncId->List DV->Option CR}{head:Nat->St->Tr}{r:CR}{M:Nat}
def InL(c:Code)(n q j:Nat):Prop:=(n<=j/\j<n+z7 c/\j<1000)\/(1000+q<=j/\j<1000+q+ju c)
theorem inA_true{j n q:Nat}(h:(j<1000/\j<n)\/(1000<=j/\j<1000+q)):inA j n q=true:=by
 unfold inA;rcases h with ⟨h1,h2⟩ | ⟨h1,h2⟩
 ·simp[h1,h2]
 ·rw[decide_eq_false (by omega)];simp[h2]
theorem inA_false{j n q:Nat}(h:(j<1000/\n<=j)\/(1000<=j/\1000+q<=j)):inA j n q=false:=by
 unfold inA;rcases h with ⟨h1,h2⟩ | ⟨h1,h2⟩
 ·simp[h1,h2]
 ·rw[decide_eq_false (by omega)];simp[h2]
theorem execX_run:∀(c:Code) (m0:Nat) (_:m0<=M) (n q:Nat) (_:n+z7 c<=1000) (Kx:Ex->St->Tr) (K:Ex->St->Option CR),
  (∀j,InL c n q j->∀st,head j st=JZ E X F j c n q Kx st) ->
  (∀p,p<=m0->∀e st,run call (goX call head p) (Kx e st)=some r->K e st=some r)->Mono r K K ->
  ∀p,p<=m0->∀st,run call (goX call head p) (Ju E X F c n q st Kx)=some r->exec E M (jt E call) c st K=some r:=by
 intro c;induction c with
 | skip=>intro m0 hM n q hN Kx K hh hK hm p hp st h;exact hK p hp .normal st h
 | label l=>intro m0 hM n q hN Kx K hh hK hm p hp st h;exact hK p hp .normal st h
 | region id ops draw=>intro m0 hM n q hN Kx K hh hK hm p hp st h;exact runRegionX_run (λst=>hK p hp .normal st) h
 | seq a b iha ihb =>
  intro m0 hM n q hN Kx K hh hK hm p hp st h;have hla:z7 (.seq a b)=z7 a+z7 b:=rfl;have hsa:ju (.seq a b)=ju a+ju b+1:=rfl;have hb:∀m,m<=m0->∀st,run call (goX call head m) (Ju E X F b (n+z7 a) (q+1+ju a) st Kx)=some r->exec E M (jt E call) b st K=some r:=by
   refine ihb m0 hM (n+z7 a) (q+1+ju a) (by omega) Kx K (λj hj st=>?_) hK hm
   unfold InL at hj;rw[hh j (by unfold InL;omega)]
   simp only[JZ,decide_eq_false (show ¬j=1000+q by omega),inA_false (j:=j) (n:=n+z7 a) (q:=q+1+ju a) (by omega)]
  have hmono:Mono r (qm (λst'=>exec E M (jt E call) b st' K) K) (qm (λst'=>exec E M (jt E call) b st' K) K):=thenK_le (λs t hst e=>exec_le b hst hm e) hm
  show exec E M (jt E call) a st (qm (λst'=>exec E M (jt E call) b st' K) K)=some r
  simp only[Ju] at h;cases hc:F.cuts.lookup q with
  | none =>
   rw[hc] at h;refine iha m0 hM n (q+1) (by omega) (zBG (λst'=>Ju E X F b (n+z7 a) (q+1+ju a) st' Kx) Kx) _ (λj hj st=>?_) (λp hp e st h=>?_) hmono p hp st h
   ·unfold InL at hj;rw[hh j (by unfold InL;omega)]
    simp only[JZ,decide_eq_false (show ¬j=1000+q by omega),inA_true (j:=j) (n:=n+z7 a) (q:=q+1+ju a) (by omega),hc]
   ·cases e with
    | normal=>exact hb p hp st h
    | exit i=>exact hK p hp (.exit i) st h
    | ret=>exact hK p hp .ret st h
  | some live =>
   rw[hc] at h;refine iha m0 hM n (q+1) (by omega) (zBG (λst'=>frc (forget live st') (.goto (1000+q))) Kx) _ (λj hj st=>?_) (λp hp e st h=>?_) hmono p hp st h
   ·unfold InL at hj;rw[hh j (by unfold InL;omega)]
    simp only[JZ,decide_eq_false (show ¬j=1000+q by omega),inA_true (j:=j) (n:=n+z7 a) (q:=q+1+ju a) (by omega),hc]
   ·cases e with
    | normal =>
     simp only[zBG,zA0,run] at h;show exec E M (jt E call) b st K=some r;cases p with
     | zero=>simp[goX] at h
     | succ p =>
      simp only[goX] at h;rw[hh (1000+q) (by unfold InL;omega)] at h
      simp only[JZ,decide_true] at h;exact exec_le b (JW _ st) hm (hb p (by omega) _ h)
    | exit i=>exact hK p hp (.exit i) st h
    | ret=>exact hK p hp .ret st h
 | cond c a b iha ihb =>
  intro m0 hM n q hN Kx K hh hK hm p hp st h;have hla:z7 (.cond c a b)=z7 a+z7 b:=rfl;have hsa:ju (.cond c a b)=ju a+ju b:=rfl;simp only[Ju] at h;obtain⟨v,h1,h⟩:=zZ h;obtain⟨t,h2,h⟩:=zZ h;simp only[exec,h1,h2,zN];rcases QE h with ⟨h3,h⟩ | ⟨h3,h⟩
  ·subst h3;rw[setTm_eq h1 h2] at h;refine iha m0 hM n q (by omega) Kx K (λj hj st=>?_) hK hm p hp st h
   unfold InL at hj;rw[hh j (by unfold InL;omega)]
   simp only[JZ,inA_true (j:=j) (n:=n+z7 a) (q:=q+ju a) (by omega)]
  ·subst h3;rw[setTm_eq h1 h2] at h;refine ihb m0 hM (n+z7 a) (q+ju a) (by omega) Kx K (λj hj st=>?_) hK hm p hp st h
   unfold InL at hj;rw[hh j (by unfold InL;omega)]
   simp only[JZ,inA_false (j:=j) (n:=n+z7 a) (q:=q+ju a) (by omega)]
 | block id c ih =>
  intro m0 hM n q hN Kx K hh hK hm p hp st h;refine ih m0 hM n q hN (blockX id Kx) (QW id K) (λj hj st=>hh j hj st) (λp hp e st h=>?_) (blockK_le id hm) p hp st h
  cases e with
  | normal=>exact hK p hp .normal st h
  | ret=>exact hK p hp .ret st h
  | exit i =>
   simp only[blockX] at h;simp only[QW];by_cases hi:i=id
   ·rw[if_pos hi];rw[show(i == id)=true by simp[hi]] at h
    exact hK p hp .normal st h
   ·rw[if_neg hi];rw[show(i == id)=false by simp[hi]] at h
    exact hK p hp (.exit i) st h
 | scope c ih=>intro m0 hM n q hN Kx K hh hK hm p hp st h;exact ih m0 hM n q hN Kx K (λj hj st=>hh j hj st) hK hm p hp st h
 | exit id=>intro m0 hM n q hN Kx K hh hK hm p hp st h;exact hK p hp (.exit id) st h
 | ret=>intro m0 hM n q hN Kx K hh hK hm p hp st h;exact hK p hp .ret st h
 | loop c ih =>
  intro m0 hM n q hN Kx K hh hK hm p hp st h;have hn:z7 (.loop c)=z7 c+1:=rfl;have hs:ju (.loop c)=ju c:=rfl;have lmono:∀N,∀{s t:St},Le [] s t->Qo (exec E M (jt E call) c) N s K=some r->Qo (exec E M (jt E call) c) N t K=some r :=
   λN s t hst e=>loopN_le (λs t K K' h hK e=>exec_le c h hK e) N hst hm e
  have claim:∀p,p<=m0->∀st,goX call head p n st=some r->∀N,p<=N->Qo (exec E M (jt E call) c) N st K=some r:=by
   intro p;induction p using Nat.strongRecOn with
   | _ p ihp =>
    intro hp st h N hN';cases p with
    | zero=>simp[goX] at h
    | succ p =>
     cases N with
     | zero=>omega
     | succ N =>
      simp only[goX] at h;rw[hh n (by unfold InL;omega)] at h
      simp only[JZ,decide_true] at h;refine ih p (by omega) (n+1) q (by omega) (zBG (λst'=>frc (forget (F.live.getD n []) st') (.goto n)) Kx) (qm (λst'=>Qo (exec E M (jt E call) c) N st' K) K) (λj hj st=>?_) (λp' hp' e st h=>?_)
       (thenK_le (λs t hst e=>lmono N hst e) hm) p (Nat.le_refl p) st h
      ·unfold InL at hj;rw[hh j (by unfold InL;omega)]
       simp only[JZ,decide_eq_false (show ¬j=n by omega)]
      ·cases e with
       | normal =>
        simp only[zBG,zA0,run] at h;simp only[qm];exact lmono N (JW _ st) (ihp p' (by omega) (by omega) _ h N (by omega))
       | exit i=>exact hK p' (by omega) (.exit i) st h
       | ret=>exact hK p' (by omega) .ret st h
  simp only[Ju,zA0,run] at h;show Qo (exec E M (jt E call) c) M st K=some r;exact lmono M (JW _ st) (claim p hp _ h M (by omega))
 | _=>intro m0 hM n q hN Kx K hh hK hm p hp st h;simp[Ju,run] at h
end
section
variable{P:Program}{E:Env}{S:Nat->Prop}{w:World}
theorem cnTL_get{f:TypeId->DV->DV}:∀(ts:List TypeId) (xs:List DV),(cnTL f ts xs).length=xs.length/\∀i (h:i<xs.length) (h':i<(cnTL f ts xs).length),(cnTL f ts xs)[i]=xs[i]\/∃t,(cnTL f ts xs)[i]=f t xs[i]
 | [],xs=>by cases xs <;> exact⟨rfl,λi h h'=>.inl rfl⟩
 | t :: ts,[]=>⟨rfl,λi h h'=>by simp at h⟩
 | t :: ts,x :: xs=>by
  obtain⟨h1,h2⟩:=cnTL_get (f:=f) ts xs;refine⟨by simp[cnTL,h1],λi h h'=>?_⟩
  cases i with
  | zero=>exact .inr ⟨t,rfl⟩
  | succ i=>exact h2 i (by simpa using h) (by simpa[cnTL] using h')
theorem cnE_RD(t:TypeId)(x:DV)(cs:List Value)(h:RD E.L S w x cs):RD E.L S w (cnE E t x) cs:=by
 unfold cnE;split
 ·exact h
 ·split
  ·split
   ·split
    ·cases h with
     | nl a=>exact .sl _ [] a 0 0 [] rfl (Nat.le_refl 0) rfl (λi h=>by simp at h) (by simp) (by simp)
    ·exact h
   ·exact h
  ·exact h
theorem cnT_RD:∀(n:Nat) (t:TypeId) (x:DV) (cs:List Value),RD E.L S w x cs->RD E.L S w (cnT E n t x) cs/\(cnT E n t x).isAgg=x.isAgg/\(cnT E n t x).isTup=x.isTup
 | 0,t,x,cs,h=>⟨h,rfl,rfl⟩
 | n+1,t,x,cs,h=>by
  simp only[cnT];split
  ·exact⟨h,rfl,rfl⟩
  ·split
   ·exact⟨h,rfl,rfl⟩
   ·split
    ·split
     ·split
      ·cases h with
       | nl a=>exact⟨.sl _ [] a 0 0 [] rfl (Nat.le_refl 0) rfl (λi h=>by simp at h) (by simp) (by simp),rfl,rfl⟩
      ·split
       ·cases h with
        | sl sz xs a n' c css hn hc hl hx hz hm =>
         refine⟨.sl _ _ a n' c css (by simpa using hn) hc (by simpa using hl) (λi h1 h2=>?_) hz hm,rfl,rfl⟩
         simp only[List.getElem_map];exact cnE_RD _ _ _ (hx i (by simpa using h1) h2)
       ·exact⟨h,rfl,rfl⟩
      ·exact⟨h,rfl,rfl⟩
     ·exact⟨h,rfl,rfl⟩
    ·split
     ·split
      ·cases h with
       | agg tag fs css hl hx hz =>
        have key:=λl=>cnTL_get (f:=cnT E n) (E.flds t) l
        refine⟨.agg _ _ css (by rw[(key _).1];exact hl) (λi k1 k2=>?_) hz,rfl,rfl⟩
        have k3:=k1;rw[(key _).1] at k3;have hi:=hx i k3 k2;rcases (key _).2 i k3 k1 with e | ⟨t',e⟩
        ·rw[e];exact hi
        ·rw[e];exact(cnT_RD n t' _ _ hi).1
      ·exact⟨h,rfl,rfl⟩
     ·exact⟨h,rfl,rfl⟩
    ·exact⟨h,rfl,rfl⟩
theorem cnT_tup(n:Nat)(t:TypeId)(xs:List DV):cnT E n t (.tup xs)=.tup xs:=by
 cases n with
 | zero=>rfl
 | succ n =>
  simp only[cnT];split
  ·rfl
  ·split
   ·rfl
   ·split
    ·split <;> rfl
    ·rfl
    ·rfl
theorem cnT_RV{n:Nat}{t:TypeId}{x:DV}{v:Value}(h:RV E.L S w x v):RV E.L S w (cnT E n t x) v:=by
 cases hx:x.isTup with
 | true =>
  cases x <;> simp[DV.isTup] at hx
  rw[cnT_tup];exact h
 | false =>
  obtain⟨h1,h2⟩:=RV.rd hx h;obtain⟨k1,k2,k3⟩:=cnT_RD n t x _ h1;exact RV.of (by rw[k3,hx]) k1 (by rw[k2];exact h2)
theorem cnArgs_RV{f:FuncId}{ds:List DV}{us:List Value}(h:∀i (h:i<ds.length) (h':i<us.length),RV E.L S w ds[i] us[i]) :
  (z1 E f ds).length=ds.length/\∀i (h:i<(z1 E f ds).length) (h':i<us.length),RV E.L S w (z1 E f ds)[i] us[i]:=by
 unfold z1;split
 ·rename_i fn _;obtain⟨h1,h2⟩:=cnTL_get (f:=cnT E shD) fn.params.toList ds;refine⟨h1,λi k1 k2=>?_⟩
  have k3:i<ds.length:=h1 ▸ k1;rcases h2 i k3 k1 with e | ⟨t',e⟩
  ·simp only[e];exact h i k3 k2
  ·simp only[e];exact cnT_RV (h i k3 k2)
 ·exact⟨rfl,h⟩
theorem zAa{call:FuncId->List DV->Option CR}(hc:jw P E call):jw P E (jt E call):=by
 intro f ds r h;obtain⟨h1,h2⟩:=hc f _ r h;refine⟨h1,λS w us hg hlt hlen hrv=>?_⟩
 obtain⟨k1,k2⟩:=cnArgs_RV (f:=f) hrv;exact h2 S w us hg hlt (by rw[hlen,k1]) k2
def cnCR(E:Env)(fresh:Bool)(fn:Func)(r:CR):CR :=
 match fresh with
 | true=>r
 | false=>match r with
  | .val x=>.val (cnRes E fn x)
  | r=>r
theorem cnRes_RV{fn:Func}{x:DV}{v:Value}(h:RV E.L S w x v):RV E.L S w (cnRes E fn x) v:=by
 unfold cnRes;split
 ·exact cnT_RV h
 ·split
  ·rename_i ts _ xs;obtain⟨vs,e,hl,hx⟩:=h;obtain⟨h1,h2⟩:=cnTL_get (f:=cnT E shD) fn.resultTypes.toList xs;refine⟨vs,e,by rw[hl,h1],λi k1 k2=>?_⟩
   have hi:=hx i (by omega) k2
   rcases h2 i (by omega) k1 with e | ⟨t',e⟩
   ·rw[e];exact hi
   ·obtain⟨j1,j2,j3⟩:=cnT_RD shD t' _ _ hi.1;rw[e];exact⟨j1,by rw[j2];exact hi.2⟩
  ·exact h
theorem qe{fresh:Bool}{fn:Func}{r:CR}{v:Value}{w':World}(h:zAA E S w r v w'):zAA E S w (cnCR E fresh fn r) v w':=by
 unfold cnCR;split
 ·exact h
 ·split
  ·obtain⟨S',h1,h2,h3,h4,h5⟩:=h;exact⟨S',h1,h2,h3,h4,cnRes_RV h5⟩
  ·exact h
theorem qG{call:FuncId->List DV->Option CR}{go:Nat->St->Option CR}{r:CR}{fresh:Bool}{fn:Func}{e:Ex}{st:St}(h:run call go (endX E fresh fn e st)=some r) :
  bnd (finK E fresh fn e st) (λr0=>some (cnCR E fresh fn r0))=some r:=by
 have key:run call go (finX E fresh fn st)=some r->bnd (fin E fresh fn st) (λr0=>some (cnCR E fresh fn r0))=some r:=by
  intro h;unfold finX at h;obtain⟨vs,h1,h⟩:=zZ h;unfold fin;rw[h1,zN];split at h
  ·rename_i v;split at h
   ·unfold freshX at h;simp only;split at h
    ·simp only[run] at h;simp only[Q7,zN,cnCR];exact h
    ·split at h
     ·rename_i hs;obtain⟨h2,h⟩:=zk h;obtain⟨h3,h⟩:=jG h;simp only[Bool.and_eq_true,beq_iff_eq] at h2;simp only[decide_eq_true_eq] at h3;simp only[run] at h;simp only[Q7,hs,h2.1,h2.2,h3,and_self,if_true,zN,cnCR];exact h
     ·exact zh h
    ·exact zh h
   ·obtain⟨x,h2,h⟩:=JT zx v _ h;obtain⟨h3,h⟩:=zk h;simp only[run] at h;simp only[h2,zN,h3,zY,cnCR];exact h
  ·rename_i hne;obtain⟨xs,h2,h⟩:=Js (λv k=>JT zx v k) h
   obtain⟨h3,h⟩:=zk h;simp only[run] at h;rw[<-QB] at h2;split
   ·rename_i v;exact absurd rfl (hne v)
   ·rw[h2,zN,h3,zY,zN];simp only[Bool.and_eq_true,Bool.not_eq_true'] at h3;simp only[h3.1,cnCR];exact h
 cases e with
 | normal=>exact key h
 | ret=>exact key h
 | exit i=>simp[endX,run] at h
theorem YX{fresh:Bool}{fn:Func}{r:CR}:Mono r (λe st=>bnd (finK E fresh fn e st) (λr0=>some (cnCR E fresh fn r0))) (λe st=>bnd (finK E fresh fn e st) (λr0=>some (cnCR E fresh fn r0))):=by
 intro e s t hst h;obtain⟨r0,h1,h2⟩:=bind_some h;have key:fin E fresh fn s=some r0->bnd (fin E fresh fn t) (λr0=>some (cnCR E fresh fn r0))=some r:=λh1=>by rw[fin_le hst h1,zN];exact h2
 cases e with
 | normal=>exact key h1
 | ret=>exact key h1
 | exit i=>simp[finK] at h1
theorem map_dp:∀{l:List DV},l.all isDp=true->(l.map λx=>DV.dp (undp x))=l
 | [],_=>rfl
 | x :: l,h=>by
  simp only[List.all_cons,Bool.and_eq_true] at h;have e:DV.dp (undp x)=x:=by
   cases x with
   | dp y=>rfl
   | _=>simp[isDp] at h
  simp only[List.map_cons,e,map_dp h.2]
theorem zBU{call:FuncId->List DV->Option CR}{go:Nat->St->Option CR}{r:CR}{F:XF}{fn:Func}{ds:List DV}{k:St->Tr}(hlen:fn.params.toList.length+F.caps<=fn.ntmps)
  (h:run call go (entryX E F fn ds k)=some r):ds.length<=fn.ntmps/\run call go (k (entry fn ds))=some r:=by
 unfold entryX at h;split at h
 ·rename_i hc;rw[hc] at hlen;obtain⟨hsh,h⟩:=jG h;have hdl:=hasTL_len hsh;rw[Qs (λt x=>Qw shD t x) hsh,<-hdl] at h
  exact⟨by omega,h⟩
 ·rename_i c hc;rw[hc] at hlen;obtain⟨hg,h⟩:=jG h;simp only[Bool.and_eq_true,decide_eq_true_eq] at hg;obtain⟨⟨h1,h2⟩,h3⟩:=hg;have hdl:=hasTL_len h1;rw[Qs (λt x=>Qw shD t x) h1,map_dp h3,List.take_append_drop] at h
  have hl:ds.length=fn.params.toList.length+(c+1):=by have:=List.length_drop (l:=ds) (i:=fn.params.toList.length);have:=List.length_take (l:=ds) (i:=fn.params.toList.length);omega
  rw[<-hl] at h;exact⟨by omega,h⟩
end
end Go.Am
namespace Go.Am
open Go.Proofs
open Go
def Sub(call call':FuncId->List DV->Option CR):Prop:=∀f a r,call f a=some r->call' f a=some r
def SubG(go go':Nat->St->Option CR):Prop:=∀j st r,go j st=some r->go' j st=some r
theorem YF{call call':FuncId->List DV->Option CR}{go go':Nat->St->Option CR}(hc:Sub call call')(hg:SubG go go'){r:CR}:∀t:Tr,run call go t=some r->run call' go' t=some r:=by
 intro t;induction t with
 | fail=>intro h;simp[run] at h
 | ret r'=>intro h;exact h
 | ifB b t e iht ihe =>
  intro h;rcases QE h with ⟨rfl,h⟩ | ⟨rfl,h⟩
  ·exact iht h
  ·exact ihe h
 | call f a kv kf ihv ihf =>
  intro h;rcases QF h with ⟨x,h1,h⟩ | ⟨s,xs,h1,h⟩
  ·simp only[run,hc _ _ _ h1,zC];exact ihv x h
  ·simp only[run,hc _ _ _ h1,zC];exact ihf s xs h
 | goto j st=>intro h;exact hg j st r h
theorem QP{call call':FuncId->List DV->Option CR}(hc:Sub call call')(head:Nat->St->Tr):∀{n m:Nat},n<=m->SubG (goX call head n) (goX call' head m)
 | 0,m,_=>λj st r h=>by simp[goX] at h
 | n+1,0,hle=>by omega
 | n+1,m+1,hle=>λj st r h=>by simp only[goX] at h ⊢;exact YF hc (QP hc head (by omega)) _ h
section
variable{E:Env}{X:XC}
end
def fnOf(E:Env)(f:FuncId):Func:=match E.F f with | some fn=>fn | none=>default
def J7(E:Env)(f:FuncId):Code:=match (fnOf E f).body with | some c=>c | none=>.skip
section
variable{E:Env}{X:XC}
theorem opt_ext{α:Type}{a b:Option α}(h:∀r,a=some r ↔ b=some r):a=b:=by
 cases a with
 | none =>
  cases b with
  | none=>rfl
  | some y=>exact absurd ((h y).2 rfl) (by simp)
 | some x=>exact((h x).1 rfl).symm
end
end Go.Am
namespace Go.Am
open Go.Proofs
open Go
def bs(l:List Nat):ByteArray:=⟨(l.map UInt8.ofNat).toArray⟩
abbrev eI(n:Int):DV:=.int .i64 n
structure Pt where
 x:Int
 y:Int
 deriving DecidableEq,Inhabited
structure Tb where
 name:ByteArray
 at':Pt
 deriving DecidableEq,Inhabited
structure Si where
 name:ByteArray
 least:Int
 tb:List Tb
structure Wk where
 rule:ByteArray
 d:List Int
 w:List Int
structure Cu where
 p:List Int
 cut:Int
structure Fm where
 s:Si
 w:Wk
 c:Cu
 r:List (List Int)
structure Pn where
 ps:List Pt
 least:Int
 w:Wk
 c:Cu
 r:List (List Int)
abbrev ePt(p:Pt):DV:=.agg 1 [eI p.x,eI p.y]
abbrev eTb(t:Tb):DV:=.agg 9 [.str t.name,ePt t.at']
abbrev eSi(s:Si):DV:=.agg 0 [.str s.name,eI s.least,.sl 3 (s.tb.map eTb)]
abbrev eWk(w:Wk):DV:=.agg 0 [.str w.rule,.sl 1 (w.d.map eI),.sl 1 (w.w.map eI)]
abbrev eCu(c:Cu):DV:=.agg 1 [.sl 1 (c.p.map eI),eI c.cut]
abbrev eRow(l:List Int):DV:=.agg 2 (l.map eI)
abbrev eRo(r:List (List Int)):DV:=.agg 3 (r.map eRow)
abbrev eFm(f:Fm):DV:=.agg 4 [eSi f.s,eWk f.w,eCu f.c,eRo f.r]
abbrev ePn(p:Pn):DV:=.agg 6 [.sl 2 (p.ps.map ePt),eI p.least,eWk p.w,eCu p.c,eRo p.r]
def ints(l:List Int):List DV:=l.map (DV.int .i64)
def intsOf(x:DV):List Int:=(elems x).map getI
def ptX(p:DV):Int:=getI (nth (flds p) 0)
def ptY(p:DV):Int:=getI (nth (flds p) 1)
def relI(sec sx sy ax ay bx by':Int):Int×Int :=
 (if Int.tmod sec 2=1 then Int.fdiv ((bx - ax) * sx+(by' - ay) * sy) 2 else (bx - ax) * sx+(by' - ay) * sy,
  if 0 - ((bx - ax) * sy - (by' - ay) * sx)>(bx - ax) * sy - (by' - ay) * sx then 0 - ((bx - ax) * sy - (by' - ay) * sx) else (bx - ax) * sy - (by' - ay) * sx)
def defI(d w:List Int)(steps off:Int):Int :=
 if steps<1\/steps>d.length\/off>w.getD (steps - 1).toNat 0 then 0 else d.getD (steps - 1).toNat 0
def wakesI(d w:List Int)(sec sx sy:Int)(ps:List (Int×Int)):List (List Int) :=
 (List.range ps.length).map λj=>(List.range ps.length).map λi =>
  if i=j then 0 else
   let a:=ps.getD i (0,0)
   let b:=ps.getD j (0,0)
   let r:=relI sec sx sy a.1 a.2 b.1 b.2
   defI d w r.1 r.2
def zL:List Int->Int
 | []=>0
 | x :: r=>if x=0 then zL r else x
def zV(n a b:Int):Int:=if n<a\/n>b then 3 else 0
def jj(s:ByteArray)(i:Nat):Nat:=(s[i]?.getD 0).toNat
def okAt(i c:Nat):Bool:=((decide (65<=c) && decide (c<=90)) || (decide (97<=c) && decide (c<=122))) || (!(i == 0) && (c == 95 || (decide (48<=c) && decide (c<=57))))
def Yv(s:ByteArray):Nat->Nat->Bool
 | _,0=>true
 | i,n+1=>okAt i (jj s i) && Yv s (i+1) n
def jE(s:ByteArray):Bool:=decide (0<s.size) && decide (s.size<=24) && Yv s 0 s.size
def ptE(p:Pt):Int:=zL [zV p.x (-1000) 1000,zV p.y (-1000) 1000]
def okPt(p:Pt):Prop:=-1000<=p.x/\p.x<=1000/\-1000<=p.y/\p.y<=1000
def jB(a b:Pt):Int:=(a.x - b.x) * (a.x - b.x)+(a.y - b.y) * (a.y - b.y)
def memB(n:ByteArray)(ks:List ByteArray):Bool:=ks.any λk=>decide (n=k)
def ja(least:Int)(prev:List Tb):List Tb->Int
 | []=>0
 | t :: r =>
  if zL [if jE t.name then 0 else 8,ptE t.at',if memB t.name (prev.map (·.name)) then 9 else 0]≠0 then zL [if jE t.name then 0 else 8,ptE t.at',if memB t.name (prev.map (·.name)) then 9 else 0]
  else if prev.any (λo=>decide (jB t.at' o.at'<least * least)) then 15 else ja least (prev++[t]) r
def z8(s:Si):Int :=
 if zL [if jE s.name then 0 else 8,zV s.least 1 1000,if (64:Int)<s.tb.length then 5 else 0]≠0 then zL [if jE s.name then 0 else 8,zV s.least 1 1000,if (64:Int)<s.tb.length then 5 else 0]
 else ja s.least [] s.tb
def zq(hi:Int)(up:Bool)(prev:Option Int)(d:Int):Int :=
 zL [zV d 0 hi,match prev with | some p=>if (if up then d<p else d>p) then 11 else 0 | none=>0]
def jC(hi:Int)(up:Bool)(prev:Option Int):List Int->Int
 | []=>0
 | d :: r=>if zq hi up prev d=0 then jC hi up (some d) r else zq hi up prev d
abbrev rG:ByteArray:=bs [103,114,101,97,116,101,115,116]
abbrev rS:ByteArray:=bs [115,113,117,97,114,101,115]
abbrev rM:ByteArray:=bs [115,117,109]
def jD(r:ByteArray):Bool:=memB r [rG,rS,rM]
def wakeH(w:Wk):Int:=zL [if jD w.rule then 0 else 13,if w.d=[] then 12 else 0,if (32:Int)<w.d.length then 5 else 0,if (w.w.length:Int)=w.d.length then 0 else 2]
def wakeE(w:Wk):Int :=
 if wakeH w=0 then
  if jC 256 false none w.d=0 then jC 100 true none w.w else jC 256 false none w.d
 else wakeH w
def zO(n:Int):Pt :=
 if n=0 then ⟨0,-1⟩ else if n=1 then ⟨-1,-1⟩ else if n=2 then ⟨-1,0⟩ else if n=3 then ⟨-1,1⟩ else if n=4 then ⟨0,1⟩ else if n=5 then ⟨1,1⟩ else if n=6 then ⟨1,0⟩ else ⟨1,-1⟩
def Jo(p st:Pt):Int:=p.x * st.x+p.y * st.y
def relP(sec:Int)(st a b:Pt):Int×Int:=relI sec st.x st.y a.x a.y b.x b.y
def posR(key:Nat->Int)(out:List Nat)(i:Nat):Nat->Nat
 | 0=>0
 | a+1=>if key (out.getD a 0)>key i then posR key out i a else a+1
def insR(key:Nat->Int)(out:List Nat)(i:Nat):List Nat:=out.take (posR key out i out.length)++[i]++out.drop (posR key out i out.length)
def zz(key:Nat->Int):Nat->List Nat
 | 0=>[]
 | n+1=>insR key (zz key n) n
abbrev eN(n:Nat):DV:=eI (n:Int)
def keyS(s:Si)(sec:Int)(i:Nat):Int:=Jo ((s.tb.getD i default).at') (zO sec)
def ptOf(x:DV):Pt:=⟨getI (nth (flds x) 0),getI (nth (flds x) 1)⟩
def tbOf(x:DV):Tb:=⟨getS (nth (flds x) 0),ptOf (nth (flds x) 1)⟩
def siOf(x:DV):Si:=⟨getS (nth (flds x) 0),getI (nth (flds x) 1),(elems (nth (flds x) 2)).map tbOf⟩
def ji(s:Si)(n:Int):List Nat×Int :=
 if z8 s=0 then (if zV n 0 7=0 then (zz (keyS s n) s.tb.length,0) else ([],zV n 0 7)) else ([],z8 s)
end Go.Am
namespace Go.Am
open Go.Proofs
open Go Go.RowKit
def L0:List (List Nat) :=
 [[1,1,1],[1,1],List.replicate 51 1,[51,51,51,51,51,51,51,51],[3,3,2,408],[1,1,1,1],[1,1,3,2,408],[1,1,3],[1,1,1,1,1],[1,2],[2,2,2,2,2,2],[1,1,1,1,1,1],[1],[3,2,408],[1,1,1,1,1,1,1,1],[8,8,8,8,8,8,8,8],[415,413,64],[2,2,2,2,2,2,2,2]]
def td3:TD:={ k:=(.int .i64),size:=1,bytes:=8,zero:=(.int .i64 0),eqOK:=true }
def td4:TD:={ k:=.bool,size:=1,bytes:=1,zero:=(.bool false),eqOK:=true }
def td5:TD:={ k:=(.int .u8),size:=1,bytes:=1,zero:=(.int .u8 0),eqOK:=true }
def td9:TD:={ k:=.str,size:=1,bytes:=16,zero:=(.str ⟨#[]⟩),eqOK:=true }
def td21:TD:={ k:=(.int .i32),size:=1,bytes:=4,zero:=(.int .i32 0),eqOK:=true }
def td22:TD:={ k:=(.slice 143),size:=1,bytes:=24,zero:=.nl,eqOK:=true }
def td24:TD:={ k:=(.struct 0),size:=3,bytes:=48,zero:=(.agg 0 [(.str ⟨#[]⟩),(.int .i64 0),.nl]),eqOK:=true }
def td25:TD:={ k:=(.slice 3),size:=1,bytes:=24,zero:=.nl,eqOK:=true }
def td27:TD:={ k:=(.struct 0),size:=3,bytes:=64,zero:=(.agg 0 [(.str ⟨#[]⟩),.nl,.nl]),eqOK:=true }
def td29:TD:={ k:=(.struct 1),size:=2,bytes:=32,zero:=(.agg 1 [.nl,(.int .i64 0)]),eqOK:=true }
def td30:TD:={ k:=(.array 2 51 3),size:=51,bytes:=408,zero:=(.agg 2 (List.replicate 51 (.int .i64 0))),eqOK:=true }
def td32:TD:={ k:=(.array 3 8 30),size:=408,bytes:=3264,zero:=(.agg 3 (List.replicate 8 (.agg 2 (List.replicate 51 (.int .i64 0))))),eqOK:=true }
def td34:TD:={ k:=(.struct 4),size:=416,bytes:=3408,zero:=(.agg 4 [(.agg 0 [(.str ⟨#[]⟩),(.int .i64 0),.nl]),(.agg 0 [(.str ⟨#[]⟩),.nl,.nl]),(.agg 1 [.nl,(.int .i64 0)]),(.agg 3 (List.replicate 8 (.agg 2 (List.replicate 51 (.int .i64 0)))))]),eqOK:=true }
def td35:TD:={ k:=(.slice 69),size:=1,bytes:=24,zero:=.nl,eqOK:=true }
def td36:TD:={ k:=(.slice 225),size:=1,bytes:=24,zero:=.nl,eqOK:=true }
def td38:TD:={ k:=(.struct 5),size:=4,bytes:=72,zero:=(.agg 5 [(.str ⟨#[]⟩),(.int .i64 0),.nl,.nl]),eqOK:=true }
def td45:TD:={ k:=(.array 3 8 30),size:=408,bytes:=3264,zero:=(.agg 3 (List.replicate 8 (.agg 2 (List.replicate 51 (.int .i64 0))))),eqOK:=true }
def td46:TD:={ k:=(.int .i64),size:=1,bytes:=8,zero:=(.int .i64 0),eqOK:=true }
def td49:TD:={ k:=(.struct 5),size:=4,bytes:=72,zero:=(.agg 5 [(.str ⟨#[]⟩),(.int .i64 0),.nl,.nl]),eqOK:=true }
def td51:TD:={ k:=(.slice 5),size:=1,bytes:=24,zero:=.nl,eqOK:=true }
def td56:TD:={ k:=(.slice 176),size:=1,bytes:=24,zero:=.nl,eqOK:=true }
def td58:TD:={ k:=(.struct 0),size:=3,bytes:=48,zero:=(.agg 0 [(.str ⟨#[]⟩),(.int .i64 0),.nl]),eqOK:=true }
def td59:TD:={ k:=(.struct 0),size:=3,bytes:=64,zero:=(.agg 0 [(.str ⟨#[]⟩),.nl,.nl]),eqOK:=true }
def td60:TD:={ k:=(.struct 1),size:=2,bytes:=32,zero:=(.agg 1 [.nl,(.int .i64 0)]),eqOK:=true }
def td62:TD:={ k:=(.struct 4),size:=416,bytes:=3408,zero:=(.agg 4 [(.agg 0 [(.str ⟨#[]⟩),(.int .i64 0),.nl]),(.agg 0 [(.str ⟨#[]⟩),.nl,.nl]),(.agg 1 [.nl,(.int .i64 0)]),(.agg 3 (List.replicate 8 (.agg 2 (List.replicate 51 (.int .i64 0)))))]),eqOK:=true }
def td69:TD:={ k:=(.flt .f32),size:=1,bytes:=4,zero:=(.flt .f32 0),eqOK:=true }
def td72:TD:={ k:=(.struct 5),size:=4,bytes:=32,zero:=(.agg 5 [(.int .i64 0),(.int .i64 0),(.int .i64 0),(.int .i64 0)]),eqOK:=true }
def td73:TD:={ k:=.func,size:=1,bytes:=8,zero:=.nilFn,eqOK:=true }
def td74:TD:={ k:=.func,size:=1,bytes:=8,zero:=.nilFn,eqOK:=true }
def td81:TD:={ k:=(.slice 141),size:=1,bytes:=24,zero:=.nl,eqOK:=true }
def td83:TD:={ k:=(.struct 6),size:=415,bytes:=3392,zero:=(.agg 6 [.nl,(.int .i64 0),(.agg 0 [(.str ⟨#[]⟩),.nl,.nl]),(.agg 1 [.nl,(.int .i64 0)]),(.agg 3 (List.replicate 8 (.agg 2 (List.replicate 51 (.int .i64 0)))))]),eqOK:=true }
def td88:TD:={ k:=(.struct 6),size:=415,bytes:=3392,zero:=(.agg 6 [.nl,(.int .i64 0),(.agg 0 [(.str ⟨#[]⟩),.nl,.nl]),(.agg 1 [.nl,(.int .i64 0)]),(.agg 3 (List.replicate 8 (.agg 2 (List.replicate 51 (.int .i64 0)))))]),eqOK:=true }
def td95:TD:={ k:=(.slice 25),size:=1,bytes:=24,zero:=.nl,eqOK:=true }
def td107:TD:={ k:=(.slice 117),size:=1,bytes:=24,zero:=.nl,eqOK:=true }
def td108:TD:={ k:=(.int .u16),size:=1,bytes:=2,zero:=(.int .u16 0),eqOK:=true }
def td110:TD:={ k:=(.struct 0),size:=3,bytes:=24,zero:=(.agg 0 [(.int .i64 0),(.int .i64 0),(.int .i64 0)]),eqOK:=true }
def td112:TD:={ k:=(.struct 7),size:=5,bytes:=56,zero:=(.agg 7 [.nl,(.int .u16 0),(.agg 0 [(.int .i64 0),(.int .i64 0),(.int .i64 0)])]),eqOK:=true }
def td114:TD:={ k:=(.slice 120),size:=1,bytes:=24,zero:=.nl,eqOK:=true }
def td115:TD:={ k:=(.slice 121),size:=1,bytes:=24,zero:=.nl,eqOK:=true }
def td117:TD:={ k:=(.struct 1),size:=2,bytes:=2,zero:=(.agg 1 [(.int .u8 0),(.int .u8 0)]),eqOK:=true }
def td120:TD:={ k:=(.struct 8),size:=5,bytes:=40,zero:=(.agg 8 [(.int .i64 0),(.int .i64 0),(.int .i64 0),(.int .i64 0),(.int .i64 0)]),eqOK:=true }
def td121:TD:={ k:=(.struct 0),size:=3,bytes:=24,zero:=(.agg 0 [(.int .i64 0),(.int .i64 0),(.int .i64 0)]),eqOK:=true }
def td123:TD:={ k:=(.struct 8),size:=5,bytes:=40,zero:=(.agg 8 [(.int .i64 0),(.int .i64 0),(.int .i64 0),(.int .i64 0),(.int .i64 0)]),eqOK:=true }
def td141:TD:={ k:=(.struct 1),size:=2,bytes:=16,zero:=(.agg 1 [(.int .i64 0),(.int .i64 0)]),eqOK:=true }
def td143:TD:={ k:=(.struct 9),size:=3,bytes:=32,zero:=(.agg 9 [(.str ⟨#[]⟩),(.agg 1 [(.int .i64 0),(.int .i64 0)])]),eqOK:=true }
def td156:TD:={ k:=(.array 1 2 3),size:=2,bytes:=16,zero:=(.agg 1 (List.replicate 2 (.int .i64 0))),eqOK:=true }
def td160:TD:={ k:=(.struct 1),size:=2,bytes:=16,zero:=(.agg 1 [(.int .i64 0),(.int .i64 0)]),eqOK:=true }
def td167:TD:={ k:=(.array 10 6 156),size:=12,bytes:=96,zero:=(.agg 10 (List.replicate 6 (.agg 1 (List.replicate 2 (.int .i64 0))))),eqOK:=true }
def td168:TD:={ k:=(.slice 34),size:=1,bytes:=24,zero:=.nl,eqOK:=true }
def td171:TD:={ k:=(.array 11 6 3),size:=6,bytes:=48,zero:=(.agg 11 (List.replicate 6 (.int .i64 0))),eqOK:=true }
def td172:TD:={ k:=(.array 0 3 25),size:=3,bytes:=72,zero:=(.agg 0 (List.replicate 3 .nl)),eqOK:=true }
def td173:TD:={ k:=(.slice 9),size:=1,bytes:=24,zero:=.nl,eqOK:=true }
def td176:TD:={ k:=(.struct 9),size:=3,bytes:=32,zero:=(.agg 9 [(.str ⟨#[]⟩),(.agg 1 [(.int .i64 0),(.int .i64 0)])]),eqOK:=true }
def td208:TD:={ k:=(.array 1 2 5),size:=2,bytes:=2,zero:=(.agg 1 (List.replicate 2 (.int .u8 0))),eqOK:=true }
def td217:TD:={ k:=(.array 1 2 25),size:=2,bytes:=48,zero:=(.agg 1 (List.replicate 2 .nl)),eqOK:=true }
def td225:TD:={ k:=(.struct 1),size:=2,bytes:=16,zero:=(.agg 1 [(.int .i64 0),(.int .i64 0)]),eqOK:=true }
def td230:TD:={ k:=(.slice 4),size:=1,bytes:=24,zero:=.nl,eqOK:=true }
def td233:TD:={ k:=.func,size:=1,bytes:=8,zero:=.nilFn,eqOK:=true }
def td235:TD:={ k:=(.int .u64),size:=1,bytes:=8,zero:=(.int .u64 0),eqOK:=true }
def td237:TD:={ k:=(.int .u32),size:=1,bytes:=4,zero:=(.int .u32 0),eqOK:=true }
def td240:TD:={ k:=(.ptr 242),size:=1,bytes:=8,zero:=.nilPtr,eqOK:=true }
def td242:TD:={ k:=(.struct 12),size:=1,bytes:=24,zero:=(.agg 12 [.nl]),eqOK:=true }
def td246:TD:={ k:=(.struct 13),size:=413,bytes:=3360,zero:=(.agg 13 [(.agg 0 [(.str ⟨#[]⟩),.nl,.nl]),(.agg 1 [.nl,(.int .i64 0)]),(.agg 3 (List.replicate 8 (.agg 2 (List.replicate 51 (.int .i64 0)))))]),eqOK:=true }
def td251:TD:={ k:=(.struct 9),size:=3,bytes:=24,zero:=(.agg 9 [(.int .i64 0),(.agg 1 [(.int .i64 0),(.int .i64 0)])]),eqOK:=true }
def td266:TD:={ k:=(.struct 1),size:=2,bytes:=32,zero:=(.agg 1 [.nl,(.int .i64 0)]),eqOK:=true }
def td268:TD:={ k:=(.ptr 357),size:=1,bytes:=8,zero:=.nilPtr,eqOK:=true }
def td275:TD:={ k:=.func,size:=1,bytes:=8,zero:=.nilFn,eqOK:=true }
def td276:TD:={ k:=.func,size:=1,bytes:=8,zero:=.nilFn,eqOK:=true }
def td278:TD:={ k:=(.map 3 3),size:=1,bytes:=8,zero:=.nilMp,eqOK:=true }
def td280:TD:={ k:=.func,size:=1,bytes:=8,zero:=.nilFn,eqOK:=true }
def td282:TD:={ k:=(.cpx .f64),size:=1,bytes:=16,zero:=(.cpx .f64 0 0),eqOK:=true }
def td286:TD:={ k:=(.struct 1),size:=2,bytes:=24,zero:=(.agg 1 [(.int .i64 0),(.cpx .f64 0 0)]),eqOK:=true }
def td287:TD:={ k:=(.slice 286),size:=1,bytes:=24,zero:=.nl,eqOK:=true }
def td288:TD:={ k:=(.slice 282),size:=1,bytes:=24,zero:=.nl,eqOK:=true }
def td290:TD:={ k:=(.slice 46),size:=1,bytes:=24,zero:=.nl,eqOK:=true }
def td292:TD:={ k:=.func,size:=1,bytes:=8,zero:=.nilFn,eqOK:=true }
def td293:TD:={ k:=(.slice 297),size:=1,bytes:=24,zero:=.nl,eqOK:=true }
def td297:TD:={ k:=(.struct 1),size:=2,bytes:=16,zero:=(.agg 1 [(.int .i64 0),(.int .i64 0)]),eqOK:=true }
def td300:TD:={ k:=(.slice 302),size:=1,bytes:=24,zero:=.nl,eqOK:=true }
def td302:TD:={ k:=(.struct 1),size:=2,bytes:=16,zero:=(.agg 1 [(.int .i64 0),(.int .i64 0)]),eqOK:=true }
def td304:TD:={ k:=.func,size:=1,bytes:=8,zero:=.nilFn,eqOK:=true }
def td305:TD:={ k:=.func,size:=1,bytes:=8,zero:=.nilFn,eqOK:=true }
def td309:TD:={ k:=.func,size:=1,bytes:=8,zero:=.nilFn,eqOK:=true }
def td312:TD:={ k:=(.struct 12),size:=1,bytes:=8,zero:=(.agg 12 [.nilFn]),eqOK:=true }
def td314:TD:={ k:=(.map 9 312),size:=1,bytes:=8,zero:=.nilMp,eqOK:=true }
def td328:TD:={ k:=.iface,size:=1,bytes:=16,zero:=.nilIf,eqOK:=false }
def td334:TD:={ k:=.func,size:=1,bytes:=8,zero:=.nilFn,eqOK:=true }
def td336:TD:={ k:=.func,size:=1,bytes:=8,zero:=.nilFn,eqOK:=true }
def td341:TD:={ k:=(.flt .f64),size:=1,bytes:=8,zero:=(.flt .f64 0),eqOK:=true }
def td345:TD:={ k:=.func,size:=1,bytes:=8,zero:=.nilFn,eqOK:=true }
def td346:TD:={ k:=(.array 5 4 5),size:=4,bytes:=4,zero:=(.agg 5 (List.replicate 4 (.int .u8 0))),eqOK:=true }
def td349:TD:={ k:=.func,size:=1,bytes:=8,zero:=.nilFn,eqOK:=true }
def td353:TD:={ k:=(.map 9 4),size:=1,bytes:=8,zero:=.nilMp,eqOK:=true }
def td354:TD:={ k:=(.array 14 8 4),size:=8,bytes:=8,zero:=(.agg 14 (List.replicate 8 (.bool false))),eqOK:=true }
def td355:TD:={ k:=(.array 15 8 354),size:=64,bytes:=64,zero:=(.agg 15 (List.replicate 8 (.agg 14 (List.replicate 8 (.bool false))))),eqOK:=true }
def td357:TD:={ k:=(.struct 16),size:=892,bytes:=6816,zero:=(.agg 16 [(.agg 6 [.nl,(.int .i64 0),(.agg 0 [(.str ⟨#[]⟩),.nl,.nl]),(.agg 1 [.nl,(.int .i64 0)]),(.agg 3 (List.replicate 8 (.agg 2 (List.replicate 51 (.int .i64 0)))))]),(.agg 13 [(.agg 0 [(.str ⟨#[]⟩),.nl,.nl]),(.agg 1 [.nl,(.int .i64 0)]),(.agg 3 (List.replicate 8 (.agg 2 (List.replicate 51 (.int .i64 0)))))]),(.agg 15 (List.replicate 8 (.agg 14 (List.replicate 8 (.bool false)))))]),eqOK:=true }
def td359:TD:={ k:=.func,size:=1,bytes:=8,zero:=.nilFn,eqOK:=true }
def td362:TD:={ k:=(.map 3 4),size:=1,bytes:=8,zero:=.nilMp,eqOK:=true }
def td365:TD:={ k:=.func,size:=1,bytes:=8,zero:=.nilFn,eqOK:=true }
def td369:TD:={ k:=.func,size:=1,bytes:=8,zero:=.nilFn,eqOK:=true }
def td370:TD:={ k:=.func,size:=1,bytes:=8,zero:=.nilFn,eqOK:=true }
def td372:TD:={ k:=(.slice 374),size:=1,bytes:=24,zero:=.nl,eqOK:=true }
def td374:TD:={ k:=(.struct 1),size:=2,bytes:=16,zero:=(.agg 1 [(.int .i64 0),(.int .i64 0)]),eqOK:=true }
def td376:TD:={ k:=.func,size:=1,bytes:=8,zero:=.nilFn,eqOK:=true }
def td383:TD:={ k:=(.array 17 8 141),size:=16,bytes:=128,zero:=(.agg 17 (List.replicate 8 (.agg 1 [(.int .i64 0),(.int .i64 0)]))),eqOK:=true }
def td392:TD:={ k:=(.ptr 58),size:=1,bytes:=8,zero:=.nilPtr,eqOK:=true }
def td393:TD:={ k:=(.ptr 395),size:=1,bytes:=8,zero:=.nilPtr,eqOK:=true }
def td395:TD:={ k:=(.struct 1),size:=2,bytes:=32,zero:=(.agg 1 [.nl,(.bool false)]),eqOK:=true }
def td398:TD:={ k:=.func,size:=1,bytes:=8,zero:=.nilFn,eqOK:=true }
def td401:TD:={ k:=.func,size:=1,bytes:=8,zero:=.nilFn,eqOK:=true }
def td404:TD:={ k:=.func,size:=1,bytes:=8,zero:=.nilFn,eqOK:=true }
def td407:TD:={ k:=(.array 8 5 3),size:=5,bytes:=40,zero:=(.agg 8 (List.replicate 5 (.int .i64 0))),eqOK:=true }
def td413:TD:={ k:=(.int .i64),size:=1,bytes:=8,zero:=(.int .i64 0),eqOK:=true }
def td442:TD:={ k:=(.int .u64),size:=1,bytes:=8,zero:=(.int .u64 0),eqOK:=true }
def td446:TD:={ k:=(.ptr 3),size:=1,bytes:=8,zero:=.nilPtr,eqOK:=true }
def dTab:List (Nat×TD):=[(3,td3),(4,td4),(5,td5),(9,td9),(21,td21),(22,td22),(24,td24),(25,td25),(27,td27),(29,td29),(30,td30),(32,td32),(34,td34),(35,td35),(36,td36),(38,td38),(45,td45),(46,td46),(49,td49),(51,td51),(56,td56),(58,td58),(59,td59),(60,td60),(62,td62),(69,td69),(72,td72),(73,td73),(74,td74),(81,td81),(83,td83),(88,td88),(95,td95),(107,td107),(108,td108),(110,td110),(112,td112),(114,td114),(115,td115),(117,td117),(120,td120),(121,td121),(123,td123),(141,td141),(143,td143),(156,td156),(160,td160),(167,td167),(168,td168),(171,td171),(172,td172),(173,td173),(176,td176),(208,td208),(217,td217),(225,td225),(230,td230),(233,td233),(235,td235),(237,td237),(240,td240),(242,td242),(246,td246),(251,td251),(266,td266),(268,td268),(275,td275),(276,td276),(278,td278),(280,td280),(282,td282),(286,td286),(287,td287),(288,td288),(290,td290),(292,td292),(293,td293),(297,td297),(300,td300),(302,td302),(304,td304),(305,td305),(309,td309),(312,td312),(314,td314),(328,td328),(334,td334),(336,td336),(341,td341),(345,td345),(346,td346),(349,td349),(353,td353),(354,td354),(355,td355),(357,td357),(359,td359),(362,td362),(365,td365),(369,td369),(370,td370),(372,td372),(374,td374),(376,td376),(383,td383),(392,td392),(393,td393),(395,td395),(398,td398),(401,td401),(404,td404),(407,td407),(413,td413),(442,td442),(446,td446)]
def fldTab:List (Nat×List Nat):=[(24,[9,3,22]),(27,[9,25,25]),(29,[25,3]),(34,[24,27,29,32]),(38,[9,3,35,36]),(49,[9,3,35,36]),(58,[9,3,56]),(59,[9,25,25]),(60,[25,3]),(62,[58,59,60,45]),(72,[3,3,3,3]),(83,[81,3,27,29,32]),(88,[81,3,59,60,45]),(110,[3,3,3]),(112,[107,108,110]),(117,[5,5]),(120,[3,3,3,3,3]),(121,[3,3,3]),(123,[3,3,3,3,3]),(141,[3,3]),(143,[9,141]),(160,[3,3]),(176,[9,141]),(225,[3,3]),(242,[51]),(246,[59,60,45]),(251,[3,141]),(266,[25,3]),(286,[3,282]),(297,[3,3]),(302,[3,3]),(312,[73]),(357,[88,246,355]),(374,[3,3]),(395,[173,4])]
noncomputable def fTab:List (Nat×Func):=[(3,Tryz.f3),(4,Tryz.f4),(5,Tryz.f5),(6,Tryz.f6),(7,Tryz.f7),(8,Tryz.f8),(9,Tryz.f9),(10,Tryz.f10),(11,Tryz.f11),(12,Tryz.f12),(13,Tryz.f13),(14,Tryz.f14),(15,Tryz.f15),(16,Tryz.f16),(17,Tryz.f17),(18,Tryz.f18),(19,Tryz.f19),(20,Tryz.f20),(21,Tryz.f21),(22,Tryz.f22),(23,Tryz.f23),(24,Tryz.f24),(25,Tryz.f25),(26,Tryz.f26),(27,Tryz.f27),(28,Tryz.f28),(29,Tryz.f29),(30,Tryz.f30),(31,Tryz.f31),(32,Tryz.f32),(33,Tryz.f33),(34,Tryz.f34),(35,Tryz.f35),(36,Tryz.f36),(37,Tryz.f37),(38,Tryz.f38),(39,Tryz.f39),(40,Tryz.f40),(41,Tryz.f41),(42,Tryz.f42),(43,Tryz.f43),(44,Tryz.f44),(45,Tryz.f45),(46,Tryz.f46),(47,Tryz.f47),(48,Tryz.f48),(49,Tryz.f49),(50,Tryz.f50),(51,Tryz.f51),(52,Tryz.f52),(53,Tryz.f53),(54,Tryz.f54),(55,Tryz.f55),(56,Tryz.f56),(57,Tryz.f57),(58,Tryz.f58),(59,Tryz.f59),(60,Tryz.f60),(61,Tryz.f61),(62,Tryz.f62),(63,Tryz.f63),(64,Tryz.f64),(65,Tryz.f65),(66,Tryz.f66),(67,Tryz.f67),(68,Tryz.f68),(69,Tryz.f69),(70,Tryz.f70),(71,Tryz.f71),(72,Tryz.f72),(73,Tryz.f73),(74,Tryz.f74),(75,Tryz.f75),(76,Tryz.f76),(77,Tryz.f77),(78,Tryz.f78),(79,Tryz.f79),(80,Tryz.f80),(81,Tryz.f81),(82,Tryz.f82),(83,Tryz.f83),(84,Tryz.f84),(85,Tryz.f85),(86,Tryz.f86),(87,Tryz.f87),(88,Tryz.f88),(89,Tryz.f89),(90,Tryz.f90),(91,Tryz.f91),(92,Tryz.f92),(93,Tryz.f93),(94,Tryz.f94),(95,Tryz.f95),(96,Tryz.f96),(97,Tryz.f97),(98,Tryz.f98),(99,Tryz.f99),(100,Tryz.f100),(101,Tryz.f101),(102,Tryz.f102),(103,Tryz.f103),(104,Tryz.f104),(105,Tryz.f105),(106,Tryz.f106),(107,Tryz.f107),(108,Tryz.f108),(109,Tryz.f109),(110,Tryz.f110),(111,Tryz.f111),(112,Tryz.f112),(113,Tryz.f113),(114,Tryz.f114),(115,Tryz.f115),(116,Tryz.f116),(117,Tryz.f117),(118,Tryz.f118),(119,Tryz.f119),(120,Tryz.f120),(121,Tryz.f121),(122,Tryz.f122),(123,Tryz.f123),(124,Tryz.f124),(125,Tryz.f125),(126,Tryz.f126),(127,Tryz.f127),(128,Tryz.f128),(129,Tryz.f129),(130,Tryz.f130),(131,Tryz.f131),(132,Tryz.f132),(133,Tryz.f133),(134,Tryz.f134),(135,Tryz.f135),(136,Tryz.f136),(137,Tryz.f137),(138,Tryz.f138),(139,Tryz.f139),(142,Tryz.f142),(144,Tryz.f144),(145,Tryz.f145),(146,Tryz.f146),(147,Tryz.f147),(148,Tryz.f148),(149,Tryz.f149),(150,Tryz.f150),(151,Tryz.f151),(152,Tryz.f152),(153,Tryz.f153),(154,Tryz.f154),(155,Tryz.f155),(156,Tryz.f156),(157,Tryz.f157),(158,Tryz.f158),(159,Tryz.f159),(160,Tryz.f160),(161,Tryz.f161),(162,Tryz.f162),(163,Tryz.f163),(164,Tryz.f164),(165,Tryz.f165),(166,Tryz.f166),(167,Tryz.f167),(168,Tryz.f168),(169,Tryz.f169),(170,Tryz.f170),(171,Tryz.f171),(172,Tryz.f172),(173,Tryz.f173),(174,Tryz.f174),(175,Tryz.f175),(176,Tryz.f176),(177,Tryz.f177),(178,Tryz.f178),(179,Tryz.f179),(180,Tryz.f180),(181,Tryz.f181),(182,Tryz.f182),(183,Tryz.f183),(184,Tryz.f184),(185,Tryz.f185),(186,Tryz.f186),(187,Tryz.f187),(188,Tryz.f188),(189,Tryz.f189),(190,Tryz.f190),(191,Tryz.f191),(192,Tryz.f192),(193,Tryz.f193),(194,Tryz.f194),(195,Tryz.f195),(196,Tryz.f196),(197,Tryz.f197),(198,Tryz.f198),(199,Tryz.f199),(200,Tryz.f200),(201,Tryz.f201),(202,Tryz.f202),(203,Tryz.f203),(204,Tryz.f204),(205,Tryz.f205),(206,Tryz.f206),(207,Tryz.f207),(209,Tryz.f209),(213,Tryz.f213),(214,Tryz.f214),(215,Tryz.f215),(216,Tryz.f216),(217,Tryz.f217),(218,Tryz.f218),(219,Tryz.f219),(221,Tryz.f221),(222,Tryz.f222),(223,Tryz.f223),(224,Tryz.f224),(225,Tryz.f225),(226,Tryz.f226),(227,Tryz.f227),(228,Tryz.f228),(230,Tryz.f230),(231,Tryz.f231),(232,Tryz.f232),(233,Tryz.f233),(234,Tryz.f234),(235,Tryz.f235),(236,Tryz.f236),(237,Tryz.f237),(238,Tryz.f238),(239,Tryz.f239),(240,Tryz.f240),(241,Tryz.f241),(242,Tryz.f242),(243,Tryz.f243),(244,Tryz.f244),(245,Tryz.f245),(246,Tryz.f246),(247,Tryz.f247),(248,Tryz.f248),(249,Tryz.f249),(250,Tryz.f250),(251,Tryz.f251),(252,Tryz.f252),(253,Tryz.f253),(254,Tryz.f254),(255,Tryz.f255),(256,Tryz.f256),(257,Tryz.f257),(258,Tryz.f258),(262,Tryz.f262),(263,Tryz.f263),(264,Tryz.f264),(265,Tryz.f265),(266,Tryz.f266),(267,Tryz.f267),(276,Tryz.f276),(277,Tryz.f277),(279,Tryz.f279),(280,Tryz.f280),(281,Tryz.f281),(282,Tryz.f282),(283,Tryz.f283),(284,Tryz.f284),(285,Tryz.f285),(286,Tryz.f286),(287,Tryz.f287),(288,Tryz.f288),(289,Tryz.f289),(290,Tryz.f290),(291,Tryz.f291),(292,Tryz.f292),(293,Tryz.f293),(294,Tryz.f294),(295,Tryz.f295),(296,Tryz.f296),(297,Tryz.f297),(298,Tryz.f298),(299,Tryz.f299),(300,Tryz.f300),(301,Tryz.f301),(302,Tryz.f302),(303,Tryz.f303),(304,Tryz.f304),(305,Tryz.f305),(306,Tryz.f306),(307,Tryz.f307),(308,Tryz.f308),(327,Tryz.f327),(328,Tryz.f328),(329,Tryz.f329),(330,Tryz.f330),(331,Tryz.f331),(332,Tryz.f332),(333,Tryz.f333),(334,Tryz.f334),(335,Tryz.f335),(336,Tryz.f336),(337,Tryz.f337),(338,Tryz.f338),(339,Tryz.f339),(340,Tryz.f340),(341,Tryz.f341),(343,Tryz.f343),(344,Tryz.f344),(365,Tryz.f365),(366,Tryz.f366),(367,Tryz.f367),(368,Tryz.f368),(369,Tryz.f369),(370,Tryz.f370),(372,Tryz.f372),(373,Tryz.f373),(374,Tryz.f374),(375,Tryz.f375),(376,Tryz.f376),(377,Tryz.f377),(378,Tryz.f378),(379,Tryz.f379),(393,Tryz.f393),(394,Tryz.f394),(395,Tryz.f395),(396,Tryz.f396),(403,Tryz.f403),(208,Tryz.f208),(210,Tryz.f210),(211,Tryz.f211),(212,Tryz.f212),(220,Tryz.f220),(260,Tryz.f260),(261,Tryz.f261),(311,Tryz.f311)]
def pt(x y:Int):DV:=.agg 1 [.int .i64 x,.int .i64 y]
def stepsD:DV:=.agg 17 [pt 0 (-1),pt (-1) (-1),pt (-1) 0,pt (-1) 1,pt 0 1,pt 1 1,pt 1 0,pt 1 (-1)]
noncomputable def E0(steps:Nat)(fresh:FuncId->Bool)(orc:FuncId->Option (List DV->Option CR)):Env where
 D t:=dTab.lookup t
 L g:=L0.getD g []
 flds t:=(fldTab.lookup t).getD []
 glob g:=if g=steps then some stepsD else none
 F f:=fTab.lookup f
 fresh:=fresh
 orc:=orc
 gtab g:=if g=5 then some (Lib.pow10Tab.map λz=>Value.int .u64 z).toArray else none
theorem qS{β:Type}{k:Nat}{v:β}:∀{l:List (Nat×β)},l.lookup k=some v->(k,v)∈l
 | [],h=>by simp at h
 | (k',v') :: l,h=>by
  rw[List.lookup_cons] at h;split at h
  ·rename_i e;injection h with h;subst h
   have:k=k':=by simpa using e
   subst this;exact List.mem_cons_self
  ·exact List.mem_cons_of_mem _ (qS h)
set_option maxRecDepth 100000 in
theorem chk_all(steps:Nat)(fresh:FuncId->Bool)(orc:FuncId->Option (List DV->Option CR)):(dTab.all λp=>chkTD Tryz.prog (E0 steps fresh orc) p.1 p.2)=true:=by kernel_rfl
set_option maxRecDepth 100000 in
theorem zAC(steps:Nat)(fresh:FuncId->Bool)(orc:FuncId->Option (List DV->Option CR)):DOK Tryz.prog (E0 steps fresh orc):=λ_ d h =>
 chkTD_sound (List.all_eq_true.1 (chk_all steps fresh orc) _ (qS h))
set_option maxRecDepth 100000 in
theorem Jr:Tryz.prog.follows .mixedOrders=true:=by kernel_rfl
end Go.Am
namespace Go.Am
open Go.Proofs
open Go
def o200:List DV->Option CR
 | [w,ps,b]=>some (.val (.sl 1 ((wakesI (intsOf (nth (flds w) 1)) (intsOf (nth (flds w) 2)) (getI (nth (flds b) 0)) (ptX (nth (flds b) 1)) (ptY (nth (flds b) 1)) ((elems ps).map λp=>(ptX p,ptY p))).map λr=>.sl 1 (ints r))))
 | _=>none
def o161:List DV->Option CR
 | [p]=>some (.val (.dp (.agg 16 [p,.agg 13 [nth (flds p) 2,nth (flds p) 3,nth (flds p) 4],
   .agg 15 ((List.range 8).map λj=>.agg 14 ((List.range 8).map λi=>.bool (
    let n:=(elems (nth (flds p) 0)).length
    let least:=getI (nth (flds p) 1)
    decide (i<n/\j<n/\i≠j) &&
     let a:=nth (elems (nth (flds p) 0)) i
     let b:=nth (elems (nth (flds p) 0)) j
     decide ((ptX a - ptX b) * (ptX a - ptX b)+(ptY a - ptY b) * (ptY a - ptY b)<least * least))))])))
 | _=>none
def oClone(sz:Nat):List DV->Option CR
 | [x]=>match elems x with
  | []=>some (.val .nl)
  | xs=>some (.fresh sz xs)
 | _=>none
def o210:List DV->Option CR
 | [x]=>some (.val (.str ⟨(Lib.itoa (getI x)).toArray⟩))
 | _=>none
def joinB(sep:List UInt8):List (List UInt8)->List UInt8
 | []=>[]
 | [x]=>x
 | x :: xs=>x++sep++joinB sep xs
def o208:List DV->Option CR
 | [x,s]=>some (.val (.str ⟨(joinB (getS s).data.toList ((elems x).map λy=>(getS y).data.toList)).toArray⟩))
 | _=>none
def o50:List DV->Option CR
 | _=>some (.val (.tup [.int .i64 307200,.int .i64 0]))
noncomputable def EB:Env:=E0 1 (λ_=>false) (λ_=>none)
noncomputable def okSi(x:DV):Bool:=hasT EB 6 58 x && (elems (nth (flds x) 2)).all (hasT EB 6 176)
noncomputable def o68:List DV->Option CR
 | [x,.int .i64 n]=>if okSi x then some (.val (.tup [.sl 1 ((ji (siOf x) n).1.map eN),eI (ji (siOf x) n).2])) else none
 | _=>none
def freshF(f:FuncId):Bool:=[243,267,80].contains f
noncomputable def orcF(f:FuncId):Option (List DV->Option CR) :=
 match f with
 | 200=>some o200
 | 161=>some o161
 | 243=>some (oClone 1)
 | 267=>some (oClone 3)
 | 210=>some o210
 | 208=>some o208
 | 50=>some o50
 | 68=>some o68
 | _=>none
end Go.Am
namespace Go.Am
open Go.Proofs
open Go
set_option maxRecDepth 100000 in
def xTab:List (Nat×XF):=[
 (3,⟨[3,4,5,7,9,15,17,19,21],[[3,4,5,21,22,23,24,147,148],[3,4,5,21,22,23,24,147,148,189,190,191]],0,[]⟩),
 (4,⟨[2,3],[],0,[(10,[2,5,6,7,8,9,10,11,12]),(12,[2,5,6,7,8,9,10,11,12])]⟩),
 (5,⟨[2],[],0,[(7,[1,2,5,6,7,8,9]),(9,[1,2,5,6,7,8,9]),(13,[2,5,6,7,8,9,10,11])]⟩),
 (6,⟨[3],[[1,2,3,27,28,29]],0,[(14,[1,2,3,9,10,11]),(16,[1,2,3,9,10,11])]⟩),
 (7,⟨[3,12,16],[[2,3,7,8,9,10,12,13,105,106,107],[3,7,10,23,24,25,26,27,203,204,205]],0,[(27,[2,3,7,8,10])]⟩),
 (8,⟨[2,3,5,13,29],[[2,3,5,6,7,8,9,10,11,56,57,58],[2,3,5,6,7,8,9,10,11,18,19,56,57,58,99,100,101],[2,3,5,6,7,8,9,10,11,18,19,24,56,57,58,143,144,145]],0,[]⟩),
 (9,⟨[3,4,5],[],0,[(9,[3,4,5,7,8,9,10,11,12,13,14,15]),(14,[3,4,5,7,8,9,10,11,12,13,14,15,16,17,18,19,20]),(16,[3,4,5,7,8,9,10,11,12,13,14,15,16,17,18,19,20]),(18,[4,7,8,9,10,11,12,13,14,15,16,17,18,19,20])]⟩),
 (10,⟨[3,4,5],[],0,[(11,[3,4,5,7,8,9,10,11,12,13,14,15,16,17]),(13,[7,8,9,10,11,12,13,14,15,16,17])]⟩),
 (11,⟨[1,3,7,11,12],[],0,[(12,[3,4,5,6,7,8,9,10,11,12,13])]⟩),
 (12,⟨[3,8,9,10,13,14,17,19,20],[[2,3,8,9,10,58,59],[2,3,8,9,10,84],[2,3,8,9,10,13,14,94],[2,3,8,9,10,13,14,15,94,97],[17,126,127,128]],0,[]⟩),
 (13,⟨[2,3,12,17,20,23,33],[[2,5,6,7,8,12,106,107,108],[2,5,6,7,8,12,118,119],[2,5,6,7,8,12,15,118,119,133,134],[2,5,6,7,8,17,185,186,187],[2,7,8,17,24,26,262,263]],0,[]⟩),
 (14,⟨[3,4],[],0,[(8,[2,3,4,7,8,9,10,11,12,13,14]),(12,[7,8,9,10,11,12,13,14])]⟩),
 (15,⟨[2,5,9],[],0,[(8,[5,6,7,8,9,10])]⟩),
 (16,⟨[3,4,9,10,16,17,22,25],[[3,7,18,23,25,26,200,201]],0,[(8,[2,3,4,7])]⟩),
 (17,⟨[3,11,17],[],0,[(10,[2,3,7,8,9,10,11,12,13,14,15,16]),(12,[2,3,7,8,9,10,11,12,13,14,15,16])]⟩),
 (18,⟨[3,9,11],[],0,[(9,[1,3])]⟩),
 (19,⟨[3,5,8,9,11,15,18,21,22,24,26,28,31,34,35,36,44],[[1,3,5,7,8,11,18,19,127,128,129],[5,35,37,39,40,44,311,312]],0,[(34,[1,3,5,11,19])]⟩),
 (20,⟨[1,2,4],[],0,[]⟩),
 (21,⟨[2],[],0,[]⟩),
 (22,⟨[1],[],0,[]⟩),
 (23,⟨[1],[[1,4]],0,[]⟩),
 (24,⟨[2,3,4,6],[[2,3,4,6,7]],0,[]⟩),
 (25,⟨[2,3,4,5,7,8],[],0,[]⟩),
 (26,⟨[1,2],[],0,[]⟩),
 (27,⟨[1,5,8],[[1,5,6,41,42,43],[5,6,56,57,58]],0,[]⟩),
 (28,⟨[2,6,57],[[2,6,8,9,90,91],[2,6,8,105,106]],0,[]⟩),
 (29,⟨[1,2],[],0,[]⟩),
 (30,⟨[1],[],0,[]⟩),
 (31,⟨[],[[0,1,5]],0,[]⟩),
 (32,⟨[3,9],[],0,[]⟩),
 (33,⟨[1,24],[],0,[]⟩),
 (34,⟨[1,2],[],0,[]⟩),
 (35,⟨[],[[0,3]],0,[]⟩),
 (38,⟨[3],[],0,[]⟩),
 (39,⟨[1],[],0,[]⟩),
 (40,⟨[1],[],0,[]⟩),
 (43,⟨[2],[],0,[]⟩),
 (44,⟨[2,8],[],0,[]⟩),
 (45,⟨[1,2],[],0,[]⟩),
 (46,⟨[1],[[1,3],[1,3,5]],0,[]⟩),
 (47,⟨[3],[],0,[]⟩),
 (48,⟨[1],[[1,3,4]],0,[]⟩),
 (49,⟨[1,4],[[1,12,13,14]],0,[]⟩),
 (50,⟨[3],[],0,[]⟩),
 (51,⟨[],[[3,6,7,8]],0,[]⟩),
 (52,⟨[2],[[1,2,5,6],[1,2,5,6,7]],0,[]⟩),
 (53,⟨[3],[[1,2,3,8,9,10]],0,[]⟩),
 (54,⟨[],[[0,1,5,6],[5,7,8]],0,[]⟩),
 (55,⟨[2,4,6],[[1,2,4,6,7]],0,[]⟩),
 (57,⟨[1],[],0,[]⟩),
 (59,⟨[1,2,3,5],[[2,3,41,42,43]],0,[]⟩),
 (61,⟨[4,8,10],[[4,6,8,21,22,23]],0,[]⟩),
 (62,⟨[2],[[2,5]],0,[]⟩),
 (63,⟨[1],[],0,[]⟩),
 (64,⟨[4,12],[],0,[]⟩),
 (65,⟨[1,2,3,5],[[2,3,12,13,14]],0,[]⟩),
 (66,⟨[3],[],0,[]⟩),
 (67,⟨[1,2],[],0,[]⟩),
 (68,⟨[2,7,11],[[7,9,26,27,28]],0,[]⟩),
 (69,⟨[1,4],[[1,3],[1,3,4,5],[1,3,4,6]],0,[]⟩),
 (70,⟨[2],[],0,[]⟩),
 (71,⟨[1],[[1,3],[1,5]],0,[]⟩),
 (72,⟨[3,4,8,9],[],0,[]⟩),
 (73,⟨[3],[],0,[]⟩),
 (74,⟨[2],[[1,2,5,6],[1,2,5,6,7]],0,[]⟩),
 (75,⟨[1,3],[[1,44,45,46],[1,74,75,76]],0,[]⟩),
 (76,⟨[3,4,8],[],0,[]⟩),
 (77,⟨[3,4,8],[],0,[]⟩),
 (78,⟨[4,5,10],[],0,[]⟩),
 (79,⟨[3,4],[[2,3,4,7,8],[2,3,4,7,8,9,10]],0,[]⟩),
 (80,⟨[3,4],[[4,7,8,9]],0,[]⟩),
 (81,⟨[4,5],[[3,9,10]],0,[]⟩),
 (82,⟨[],[[0,1,5]],0,[]⟩),
 (83,⟨[1,2,5],[],0,[]⟩),
 (84,⟨[1],[],0,[]⟩),
 (85,⟨[1,2],[[2,4,6,7,8]],0,[]⟩),
 (86,⟨[1],[],0,[]⟩),
 (87,⟨[1,3],[],0,[]⟩),
 (88,⟨[4],[[0,1,4,5,6]],0,[]⟩),
 (89,⟨[2,4,5],[[1,2,4,5,6]],0,[]⟩),
 (90,⟨[2,4,5],[[1,2,4,5,6]],0,[]⟩),
 (91,⟨[],[[0,1,5]],0,[]⟩),
 (93,⟨[],[[3,6,7,8]],0,[]⟩),
 (94,⟨[2,3,7],[],0,[]⟩),
 (95,⟨[3,5,9],[],0,[]⟩),
 (96,⟨[2,3,4],[],0,[]⟩),
 (97,⟨[2,3],[],0,[]⟩),
 (98,⟨[3,5,6,7],[],0,[]⟩),
 (99,⟨[3,5],[],0,[]⟩),
 (100,⟨[2,4,9,13,14],[[1,2,4,9,10,38,39],[1,2,4,9,10,11,38,39,42,43,44]],0,[]⟩),
 (101,⟨[],[[0,3]],0,[]⟩),
 (102,⟨[2,4,8,11],[[1,2,4,7,8,9],[1,2,4,7,8,9,10]],0,[]⟩),
 (103,⟨[2,3],[[2,3,5]],0,[]⟩),
 (104,⟨[1,2,3,5],[[2,3,12,13,14]],0,[]⟩),
 (105,⟨[1],[],0,[]⟩),
 (106,⟨[2],[],0,[]⟩),
 (107,⟨[1,2],[],0,[]⟩),
 (108,⟨[1],[],0,[]⟩),
 (109,⟨[2,9],[[2,4,16,17,18]],0,[]⟩),
 (110,⟨[1],[[1,3]],0,[]⟩),
 (111,⟨[2],[],0,[]⟩),
 (112,⟨[1],[[1,3,4]],0,[]⟩),
 (113,⟨[2,5],[[2,4,5,6]],0,[]⟩),
 (114,⟨[1],[[1,17,18,19]],0,[]⟩),
 (115,⟨[2,3],[],0,[]⟩),
 (116,⟨[2,3,4],[],0,[]⟩),
 (117,⟨[1,2,3,5],[[2,3,12,13,14]],0,[]⟩),
 (118,⟨[2,4,7,9],[[1,4,7,20,21]],0,[]⟩),
 (119,⟨[1],[],0,[]⟩),
 (120,⟨[2,5],[[0,2,5,6]],0,[]⟩),
 (121,⟨[2,4],[[1,2,4,5]],0,[]⟩),
 (122,⟨[1],[],0,[]⟩),
 (123,⟨[1,2,3,5],[[2,3,12,13,14]],0,[]⟩),
 (124,⟨[1,2],[],0,[]⟩),
 (125,⟨[1,2],[],0,[]⟩),
 (126,⟨[],[[0,1,5]],0,[]⟩),
 (127,⟨[1,7],[[5,15,16],[5,15,16,19,20]],0,[]⟩),
 (128,⟨[1],[[1,3,4],[1,3,4,5]],0,[]⟩),
 (129,⟨[1],[[1,3],[1,3,4]],0,[]⟩),
 (130,⟨[],[[0,3]],0,[]⟩),
 (131,⟨[],[[0,3]],0,[]⟩),
 (132,⟨[],[[0,3]],0,[]⟩),
 (134,⟨[],[[5,6,7]],0,[]⟩),
 (135,⟨[1],[[1,28,29,30],[1,65,66,67]],0,[]⟩),
 (137,⟨[1,5],[[3,12,13,14],[3,5,6,12,13,14]],0,[]⟩),
 (138,⟨[1],[],0,[]⟩),
 (139,⟨[],[[1,5,6,7]],1,[]⟩),
 (142,⟨[3],[[4,22,23]],0,[]⟩),
 (144,⟨[1,2],[],0,[]⟩),
 (145,⟨[3,9,10],[[1,2,3,7,16,17],[1,2,3,7,12,16,17,34,35]],0,[]⟩),
 (146,⟨[1],[],0,[]⟩),
 (147,⟨[2,5],[],0,[]⟩),
 (148,⟨[],[[5,6,7]],0,[]⟩),
 (150,⟨[2],[],0,[]⟩),
 (151,⟨[],[[1,5,8,9,10]],0,[]⟩),
 (152,⟨[3],[],0,[]⟩),
 (153,⟨[3,5,7],[],0,[]⟩),
 (154,⟨[0,1],[],0,[]⟩),
 (155,⟨[0,1],[],0,[]⟩),
 (156,⟨[4],[[4,9,10,11]],0,[]⟩),
 (157,⟨[2],[[1,2,5,6],[1,2,5,6,7]],0,[]⟩),
 (158,⟨[1,7,9],[[1,4,5,28,29,30],[1,4,5,7,28,29,30,56,57,58]],0,[]⟩),
 (159,⟨[1,4],[[11,12],[11,12,15,16]],0,[]⟩),
 (160,⟨[1],[],0,[]⟩),
 (161,⟨[1,16,3,6],[],0,[]⟩),
 (162,⟨[8,10,16],[[0,1,2,3,8,10,11,25,26,27],[0,1,2,3,8,10,11,12,13,25,26,27,32,33,34]],0,[]⟩),
 (163,⟨[1],[[3,7,8]],0,[]⟩),
 (164,⟨[1],[],0,[]⟩),
 (165,⟨[5,13],[[1,2,4,5,15,16,17,18]],0,[]⟩),
 (167,⟨[2],[],1,[]⟩),
 (168,⟨[1],[],0,[]⟩),
 (170,⟨[2],[[2,5,12,13,14],[2,5,12,13,14,18,19,20]],0,[]⟩),
 (171,⟨[11],[[0,5,19,20,21],[0,5,8,9,19,20,21,31,32],[0,5,8,9,10,11,19,20,21,31,32,45]],0,[]⟩),
 (172,⟨[],[[0,1,5]],0,[]⟩),
 (173,⟨[],[[3,4],[3,4,5]],0,[]⟩),
 (177,⟨[2,3],[],0,[]⟩),
 (178,⟨[],[[5,6,7]],0,[]⟩),
 (180,⟨[],[[1,5,8,9,10]],0,[]⟩),
 (183,⟨[11],[[1,5,6,7,24,25,26],[5,57,58,59]],0,[]⟩),
 (184,⟨[9],[[1,7,25,26,27]],0,[]⟩),
 (185,⟨[3,4,5,8],[],0,[]⟩),
 (186,⟨[3],[],0,[]⟩),
 (187,⟨[2,3],[],0,[]⟩),
 (189,⟨[2,3],[],0,[]⟩),
 (190,⟨[7],[[1,5,8,9,10]],0,[]⟩),
 (191,⟨[1],[],0,[]⟩),
 (192,⟨[2,3],[],0,[]⟩),
 (193,⟨[],[[0,1,5]],0,[]⟩),
 (194,⟨[2],[],0,[]⟩),
 (195,⟨[2],[],0,[]⟩),
 (199,⟨[3,4,6],[],0,[]⟩),
 (200,⟨[3,4,5,7],[[4,7,11,12]],0,[]⟩),
 (201,⟨[],[[0,1,5,6],[5,7]],0,[]⟩),
 (202,⟨[1,2],[],0,[]⟩),
 (203,⟨[2,3,4],[],0,[]⟩),
 (204,⟨[2,3,5],[],0,[]⟩),
 (205,⟨[3,5,6],[],0,[]⟩),
 (206,⟨[2,3,4],[],0,[]⟩),
 (207,⟨[7],[[1,5,8,9,10]],0,[]⟩),
 (209,⟨[],[[1,5,8,9,10]],0,[]⟩),
 (213,⟨[],[[0,1,5,6,7]],0,[]⟩),
 (214,⟨[],[[0,6,7]],0,[]⟩),
 (216,⟨[2,4],[[1,2,4,5,16,17]],0,[]⟩),
 (217,⟨[2,3],[[2,3,4,5]],1,[]⟩),
 (218,⟨[7],[[1,5,8,9,10]],0,[]⟩),
 (219,⟨[1],[],0,[]⟩),
 (221,⟨[14,10],[],0,[]⟩),
 (223,⟨[1],[],0,[]⟩),
 (227,⟨[5],[[3,10,11,12]],0,[]⟩),
 (228,⟨[],[[0,3,9,10,11]],1,[]⟩),
 (230,⟨[0,1],[],0,[]⟩),
 (231,⟨[],[[3,6,7,8]],0,[]⟩),
 (232,⟨[7],[[1,5,8,9,10]],0,[]⟩),
 (233,⟨[1,2],[],0,[]⟩),
 (234,⟨[2],[],0,[]⟩),
 (235,⟨[],[],1,[]⟩),
 (236,⟨[],[[1,5,8,9,10]],0,[]⟩),
 (237,⟨[],[],1,[]⟩),
 (238,⟨[],[[0,3,4]],0,[]⟩),
 (239,⟨[1],[],0,[]⟩),
 (240,⟨[2,3],[],0,[]⟩),
 (241,⟨[1],[],0,[]⟩),
 (242,⟨[2],[],0,[]⟩),
 (244,⟨[],[[0,1,7,8]],0,[]⟩),
 (246,⟨[1],[],0,[]⟩),
 (248,⟨[],[[0,5,10,11,12]],0,[]⟩),
 (249,⟨[1,3,5],[],0,[]⟩),
 (250,⟨[1],[],0,[]⟩),
 (251,⟨[2,3,4],[],0,[]⟩),
 (253,⟨[],[[3,6,7,8]],0,[]⟩),
 (255,⟨[2,3],[],0,[]⟩),
 (258,⟨[],[[0,1,2,3,4,10,11]],0,[]⟩),
 (260,⟨[],[[3,6,7,8]],0,[]⟩),
 (263,⟨[],[[0,3,4]],0,[]⟩),
 (265,⟨[],[[0,3,4]],0,[]⟩),
 (279,⟨[],[[0,10]],0,[]⟩),
 (281,⟨[1],[],0,[]⟩),
 (282,⟨[],[[0,1,5,6],[0,1,3,5,6,9,10]],1,[]⟩),
 (283,⟨[],[[1,5,8,9,10]],0,[]⟩),
 (284,⟨[3],[],1,[]⟩),
 (287,⟨[],[[0,5,6,7]],1,[]⟩),
 (288,⟨[],[[5,6,7]],0,[]⟩),
 (289,⟨[4],[[9,10,11]],0,[]⟩),
 (291,⟨[],[[1,8,9,10]],0,[]⟩),
 (293,⟨[3,5,6,6],[[0,5,6]],0,[]⟩),
 (295,⟨[1,2],[],0,[]⟩),
 (297,⟨[3],[],0,[]⟩),
 (298,⟨[],[[0,1,2,3,4,10,11]],0,[]⟩),
 (299,⟨[7],[[1,5,8,9,10]],0,[]⟩),
 (300,⟨[7],[[1,5,8,9,10]],0,[]⟩),
 (301,⟨[],[[0,1,2,3,8],[0,1,2,3,8,9]],0,[]⟩),
 (302,⟨[],[[0,3,8,9,10,11],[0,3,8,9,12]],0,[]⟩),
 (303,⟨[9],[[0,1,8,9,10,11]],0,[]⟩),
 (304,⟨[11],[],0,[]⟩),
 (305,⟨[],[[0,8,9]],0,[]⟩),
 (306,⟨[],[[0,1,2,3,9,10],[0,1,2,3,9,10],[0,1,2,3,9,10,11],[0,1,2,3,9,10,12]],0,[]⟩),
 (307,⟨[],[[0,1,4,11,12],[0,1,4,11,12],[0,1,4,11,12]],0,[]⟩),
 (308,⟨[],[[0,1,4,12,13],[0,1,4,12,13],[0,1,4,12,13],[0,1,4,12,13],[0,1,4,12,13]],0,[]⟩),
 (327,⟨[2],[],0,[]⟩),
 (328,⟨[],[[0,1,2,3,8,9]],0,[]⟩),
 (331,⟨[2,3],[],0,[]⟩),
 (332,⟨[],[[0,1,2,3,8],[0,1,2,3,8,9]],0,[]⟩),
 (333,⟨[],[[0,3,8,9,10,11],[0,3,8,9,12]],0,[]⟩),
 (334,⟨[9],[[0,1,8,9,10,11]],0,[]⟩),
 (335,⟨[11],[],0,[]⟩),
 (336,⟨[],[[0,8,9]],0,[]⟩),
 (337,⟨[],[[0,1,2,3,9,10],[0,1,2,3,9,10],[0,1,2,3,9,10,11],[0,1,2,3,9,10,12]],0,[]⟩),
 (338,⟨[],[[0,1,4,11,12],[0,1,4,11,12],[0,1,4,11,12]],0,[]⟩),
 (339,⟨[],[[0,1,4,12,13],[0,1,4,12,13],[0,1,4,12,13],[0,1,4,12,13],[0,1,4,12,13]],0,[]⟩),
 (340,⟨[],[[0,2,3,4,10]],0,[]⟩),
 (365,⟨[],[[0,1,2,6],[0,1,2,6,7]],0,[]⟩),
 (366,⟨[],[[0,6,7,8,9],[0,6,7,10]],0,[]⟩),
 (367,⟨[7],[[0,1,6,7,8,9]],0,[]⟩),
 (368,⟨[9],[],0,[]⟩),
 (369,⟨[],[[0,6,7]],0,[]⟩),
 (370,⟨[],[[0,1,2,7,8],[0,1,2,7,8],[0,1,2,7,8,9],[0,1,2,7,8,10]],0,[]⟩),
 (372,⟨[],[[0,1,9,10],[0,1,9,10],[0,1,9,10]],0,[]⟩),
 (373,⟨[],[[0,1,10,11],[0,1,10,11],[0,1,10,11],[0,1,10,11],[0,1,10,11]],0,[]⟩),
 (375,⟨[],[[0,1,2]],2,[]⟩),
 (376,⟨[],[[0,2,3,4,10]],0,[]⟩),
 (393,⟨[],[[0,2,3,8]],0,[]⟩)]
def stTm:Nat->Nat->List (Nat×AV)->List AV
 | 0,_,_=>[]
 | n+1,i,[]=>.undef :: stTm n (i+1) []
 | n+1,i,(j,v) :: r=>match Nat.beq i j with
  | true=>v :: stTm n (i+1) r
  | false=>.undef :: stTm n (i+1) ((j,v) :: r)
def stHp:Nat->Nat->List (Nat×OB)->List (Option OB)
 | 0,_,_=>[]
 | n+1,i,[]=>none :: stHp n (i+1) []
 | n+1,i,(j,v) :: r=>match Nat.beq i j with
  | true=>some v :: stHp n (i+1) r
  | false=>none :: stHp n (i+1) ((j,v) :: r)
def stOf(n:Nat)(tm:List (Nat×AV))(hp:List (Nat×OB)):St:={ tm:=stTm n 0 tm,hp:=stHp n 0 hp }
noncomputable def EE:Env:=E0 1 freshF orcF
def XX:XC:={ arr:=[2,3,10,11,14,15,17],fx:=λf=>(xTab.lookup f).getD {} }
end Go.Am
namespace Go.Am
open Go.Proofs
open Go Go.RowKit Go.ChangeShapes Go.WideShapes Go.WideElems
theorem pieces{α:Type}(m:Nat):∀(css:List (List α)) (cs:List α),cs.length=css.length * m->(∀i (hi:i<css.length),(cs.drop (i * m)).take m=css[i])->cs=css.flatten
 | [],cs,hl,_=>by
  have:cs.length=0:=by simpa using hl
  simpa using List.length_eq_zero_iff.1 this
 | c :: css,cs,hl,h=>by
  have h0:=h 0 (by simp)
  have ht:=pieces m css (cs.drop m) (by simp only[List.length_cons,Nat.add_mul,Nat.one_mul] at hl;rw[List.length_drop];omega) (λi hi=>by
   have:=h (i+1) (by simp;omega)
   rw[List.drop_drop];rw[Nat.add_mul,Nat.one_mul] at this;simpa[Nat.add_comm] using this)
  simp only[Nat.zero_mul,List.drop_zero,List.getElem_cons_zero] at h0;rw[List.flatten_cons,<-ht,<-h0,List.take_append_drop]
section
variable{H:Type}{enc:TypeId×Value->H}{P:Program}{w:World}{base:Nat}{spare:Nat->Bool}{held:Bool}
theorem trod_ints{k:IntKind}{t e:TypeId}{n fuel:Nat}{cs:List Value}{d:DataW H}{ps:List MemPlace}(ht:P.underlying t=some (.array n e))(he:P.underlying e=some (.int k))(hc:P.cellsOf e=1)(hct:P.cellsOf t=n)
  (zs:List Int) (hn:zs.length=n) (h:DataW.trod enc P w base spare held fuel t cs=some (d,ps)) (hz:d=.agg (zs.map λz=>.lit (.int k z))):cs=zs.map (Value.int k):=by
 obtain⟨xs,m,_,hx,hl,hxl,hel⟩:=DataW.trod_array ht h;rw[hc] at hel;rw[hct] at hl;injection hx with hx _
 rw[hz] at hx;injection hx with hx
 have:=pieces 1 (zs.map λz=>[Value.int k z]) cs (by simp[hl,hn]) (λi hi=>by
  have hi':i<n:=by simpa[hn] using hi
  have hxi:i<xs.length:=by omega
  have h1:=hel i hi';rw[List.getElem?_eq_getElem hxi] at h1;obtain⟨q,e1,e2,_⟩:=DataW.trod_int he h1;rw[e1,List.getElem_map];have h2:(zs.map λz=>(DataW.lit (.int k z):DataW H))[i]? = (xs.map (·.1))[i]?:=by rw[hx]
  rw[List.getElem?_map,List.getElem?_map,List.getElem?_eq_getElem hxi,List.getElem?_eq_getElem (by omega),e2] at h2
  simp only[Option.map_some,Option.some.injEq] at h2;injection h2 with h2
  injection h2 with _ h2;rw[h2])
 rw[this];induction zs with
 | nil=>rfl
 | cons z zs _=>exact flat1' (Value.int k) (z :: zs)
where flat1' {α:Type} (g:α->Value):∀l:List α,(l.map λx=>[g x]).flatten=l.map g
 | []=>rfl
 | x :: l=>by rw[List.map_cons,List.flatten_cons,flat1' g l];rfl
theorem trod_pts{k:IntKind}{t e ei:TypeId}{f0 f1:Field}{n fuel:Nat}{cs:List Value}{d:DataW H}{ps:List MemPlace}(ht:P.underlying t=some (.array n e))(he:P.underlying e=some (.struct #[f0,f1]))(h0:f0.type=ei/\f0.offset=0)(h1:f1.type=ei/\f1.offset=1)
  (hi:P.underlying ei=some (.int k)) (hci:P.cellsOf ei=1) (hc:P.cellsOf e=2) (hct:P.cellsOf t=n * 2)
  (zs:List (Int×Int)) (hn:zs.length=n) (h:DataW.trod enc P w base spare held fuel t cs=some (d,ps)) (hz:d=.agg (zs.map λz=>.agg [.lit (.int k z.1),.lit (.int k z.2)])) :
  cs=(zs.map λz=>[Value.int k z.1,Value.int k z.2]).flatten:=by
 obtain⟨xs,m,_,hx,hl,hxl,hel⟩:=DataW.trod_array ht h;rw[hc] at hel;rw[hct] at hl;injection hx with hx _
 rw[hz] at hx;injection hx with hx
 refine pieces 2 (zs.map λz=>[Value.int k z.1,Value.int k z.2]) cs (by simp[hl,hn]) (λi hi'=>?_)
 have hi':i<n:=by simpa[hn] using hi'
 have hxi:i<xs.length:=by omega
 have hq:=hel i hi';rw[List.getElem?_eq_getElem hxi] at hq;obtain⟨y0,y1,m',e1,e2,e3,e4⟩:=trod_struct2 he hq;rw[h0.1,h0.2,hci] at e3;rw[h1.1,h1.2,hci] at e4;obtain⟨a,a1,a2,_⟩:=DataW.trod_int hi e3;obtain⟨b,b1,b2,_⟩:=DataW.trod_int hi e4;have h2:(zs.map λz=>(DataW.agg [.lit (.int k z.1),.lit (.int k z.2)]:DataW H))[i]? = (xs.map (·.1))[i]?:=by rw[hx]
 rw[List.getElem?_map,List.getElem?_map,List.getElem?_eq_getElem hxi,List.getElem?_eq_getElem (by omega),e1,a2,b2] at h2
 simp only[Option.map_some,Option.some.injEq,DataW.agg.injEq,List.cons.injEq,DataW.lit.injEq,Lit.int.injEq,and_true,true_and] at h2;rw[hc] at e2;generalize (cs.drop (i * 2)).take 2=q at *
 match q,e2 with
 | [u,v],_ =>
  simp at a1 b1;rw[List.getElem_map,a1,b1,h2.1,h2.2]
end
theorem laid_var{P:Program}{w:World}:∀{l:List (String×DataW Unit)} {ps:List MemPlace},DataW.LaidVars P w l ps->∀{n:String} {d:DataW Unit},(n,d)∈l ->
  ∃g t cs fuel p,P.globalNamed n=some g/\(P.globals[g]?).map (·.type)=some t/\w.var? P n=some cs/\DataW.trod (λ_=>()) P w 0 (λ_=>true) false fuel t cs.toList=some (d,p)
 | [],_,_,_,_,hm=>by simp at hm
 | (n0,d0) :: r,ps,h,n,d,hm=>by
  obtain⟨g,t,cs,fuel,p,q,h1,h2,h3,h4,h5,_⟩:=h;rcases List.mem_cons.1 hm with e | hm
  ·injection e with e1 e2;subst e1 e2
   exact⟨g,t,cs,fuel,p,h1,h2,h3,h4⟩
  ·exact laid_var h5 hm
def stepsL:List (Int×Int):=[(0,-1),(-1,-1),(-1,0),(-1,1),(0,1),(1,1),(1,0),(1,-1)]
def stepsC:List Value:=(stepsL.map λz=>[Value.int .i64 z.1,Value.int .i64 z.2]).flatten
theorem rd_steps{S:Nat->Prop}{w:World}:RD EE.L S w stepsD stepsC:=by
 have pt1:∀z:Int×Int,RD EE.L S w (pt z.1 z.2) [Value.int .i64 z.1,Value.int .i64 z.2]:=λz=>by
  have h:=RD.agg (L:=EE.L) (S:=S) (w:=w) 1 [DV.int .i64 z.1,.int .i64 z.2] [[Value.int .i64 z.1],[.int .i64 z.2]] rfl (λi h h'=>by
   match i,h,h' with
   | 0,_,_=>exact .int _ _
   | 1,_,_=>exact .int _ _) (by kernel_rfl)
  exact h
 have h:=RD.agg (L:=EE.L) (S:=S) (w:=w) 17 (stepsL.map λz=>pt z.1 z.2) (stepsL.map λz=>[Value.int .i64 z.1,Value.int .i64 z.2]) (by simp) (λi h h'=>by
  rw[List.getElem_map,List.getElem_map];exact pt1 _) (by kernel_rfl)
 exact h
theorem glob_mk{W:World}(h1:∀j,W.cell? ⟨1,j,none⟩=stepsC[j]?)(h5:∃t fr,W.heap[5]? = some (.cells (Lib.pow10Tab.map λz=>Value.int .u64 z).toArray t fr)):GlobOK EE (λb=>b<W.heap.size) W:=by
 have hs5:5<W.heap.size:=by obtain⟨t,fr,h⟩:=h5;exact(Array.getElem?_eq_some_iff.1 h).1
 refine⟨λg x h=>?_,λg cs h=>?_⟩
 ·have e:EE.glob g=if g=1 then some stepsD else none:=rfl
  rw[e] at h;split at h
  ·rename_i hg;injection h with h
   subst hg h;exact RV.mkDp rfl (show 1<W.heap.size by omega) (λj u hu=>by
    rw[jo rfl];simpa using(h1 j).trans hu) rd_steps
  ·cases h
 ·have e:EE.gtab g=if g=5 then some (Lib.pow10Tab.map λz=>Value.int .u64 z).toArray else none:=rfl
  rw[e] at h;split at h
  ·rename_i hg;injection h with h
   subst hg h;exact⟨hs5,h5⟩
  ·cases h
end Go.Am
namespace Go.Am
open Go.Proofs
open Go Go.RowKit
def noDef(ops:Array Oper):Bool:=ops.toList.all λo=>match o.op with | .defer _=>false | _=>true
section
variable{P:Program}{ops:Array Oper}{Q:Exit->Act->World->Prop}{l n:Nat}
theorem noDef_op(h:noDef ops=true){i:Nat}{o:Oper}(ho:ops[i]? = some o):∀c,o.op≠.defer c:=by
 intro c hc;have hm:o∈ops.toList:=by obtain⟨hi,rfl⟩:=Array.getElem?_eq_some_iff.1 ho;simp
 have:=List.all_eq_true.1 h o hm;rw[hc] at this;simp at this
theorem upon_In{o:Oper}{a:Act}{K K':Act->World->Prop}(hQ:¬LetsOut Q)(h:∀a w,K a w->K' a w){r:Result Next}(hh:o.upon P a K Q r):o.uponIn (Fence.wide.inRound l) n P a K' Q r:=by
 cases r with
 | ok x w' =>
  cases x with
  | value v=>exact h _ _ hh
  | skip=>exact h _ _ hh
  | defer d=>exact h _ _ hh
  | enter f args =>
   refine⟨λe=>by simp[Fence.wide] at e,?_⟩
   refine(CallsIn.inRound l (callsIn_wide.2 hh)).mono λe w'' he=>?_
   cases e with
   | returned v=>exact h _ _ he
   | panicked c=>exact he
   | outgrown=>exact he
  | row rw args =>
   refine⟨λe=>by simp[Fence.wide] at e,?_⟩
   intro c cs _;obtain⟨v,w'',h1,h2⟩:=hh c cs;exact⟨v,w'',h _ _ h1,stepsIn_wide.2 h2⟩
  | round l f t a b=>exact hh.elim
  | _=>exact hh.elim
 | halt x w' =>
  cases x <;> simp only[Oper.upon] at hh <;> exact hh
theorem wp_In{o:Oper}{a:Act}{w:World}{K K':Act->World->Prop}(hd:∀c,o.op≠.defer c)(hQ:¬LetsOut Q)(h:∀a w,K a w->K' a w)(hh:o.wp P a w K Q\/(o.asks P a w/\LetsOut Q)):o.wpIn (Fence.wide.inRound l) n P a w K' Q:=by
 refine⟨λ_ _=>trivial,?_⟩
 have hh:=hh.resolve_right λhx=>hQ hx.2
 rw[show(Fence.wide.inRound l).round=some l from rfl,Oper.semAt_eq _ _ _ hd]
 exact upon_In hQ h hh
theorem wpOps_In(hn:noDef ops=true)(hQ:¬LetsOut Q):∀(is:List Nat) (a:Act) (w:World),wpOps P ops Q is a w->wpOpsIn (Fence.wide.inRound l) n P ops Q is a w
 | [],a,w,h=>h
 | i :: is,a,w,h=>by
  simp only[wpOps,wpOpsIn] at h ⊢;cases ho:ops[i]? with
  | none=>rw[ho] at h;exact wpOps_In hn hQ is a w h
  | some o =>
   rw[ho] at h;simp only at h ⊢;split
   ·rename_i hw;rw[if_pos hw] at h;exact wp_In (noDef_op hn ho) hQ (λa w h=>wpOps_In hn hQ is a w h) h
   ·rename_i hw;rw[if_neg hw] at h;exact⟨λ_ _=>trivial,wpOps_In hn hQ is _ w h⟩
theorem wpAny_In{md:Region.Mode}(hn:noDef ops=true)(hQ:¬LetsOut Q):∀(fuel:Nat) (listed:Array Bool) (a:Act) (w:World),wpAny P md ops Q fuel listed a w->wpAnyIn (Fence.wide.inRound l) n P md ops Q fuel listed a w
 | 0,listed,a,w,h=>h
 | fuel+1,listed,a,w,h=>by
  refine⟨h.1,λi hi=>?_⟩
  have hh:=h.2 i hi;unfold wpOp at hh;unfold wpOpIn;cases ho:ops[i]? with
  | none=>rw[ho] at hh;exact wpAny_In hn hQ fuel _ a w hh
  | some o =>
   rw[ho] at hh;simp only at hh ⊢;split
   ·rename_i hw;rw[if_pos hw] at hh;exact wp_In (noDef_op hn ho) hQ (λa w h=>wpAny_In hn hQ fuel _ a w h) hh
   ·rename_i hw;rw[if_neg hw] at hh;exact⟨λ_ _=>trivial,wpAny_In hn hQ fuel _ _ w hh⟩
end
section
variable{P:Program}{E:Env}{call:FuncId->List DV->Option CR}{base:Nat}{S:Nat->Prop}{φ:Nat->Option Nat}{st:St}{a:Act}{w:World}{l m:Nat}
def inR:Code->Bool
 | .skip=>true
 | .region _ ops _=>noDef ops
 | .seq x y=>inR x && inR y
 | .block _ c=>inR c
 | .cond _ x y=>inR x && inR y
 | .exit _=>true
 | _=>false
end
end Go.Am
namespace Go.Am
open Go.Proofs
open Go Go.RowKit
attribute [local go_sem] Oper.semAt_some
def SeqR(P:Program)(g:Nat)(lb:Array Value)(xs:List (Array Value))(C:World->Prop):Prop :=
 ∀(l:Nat) (J:Nat->World->Prop) (W:World),(∀k W,J k W->C W) ->
  (∀k x W1,xs[k]? = some x->J k W1->YieldAt Fence.wide 0 P l x W1 λe W'=>e=.returned (.bool true)/\J (k+1) W') ->
  J 0 W->CallsIn Fence.wide 0 P g (#[.func (.yield l) #[] #[]]++lb) W λe W'=>(∃v,e=.returned v)/\J xs.length W'
section
variable{P:Program}
theorem zAH{g:Operand}{ps:Array Tmp}{assign body:Code}{Q:Exit->Act->World->Prop}{a:Act}{w:World}
  {gf:Nat} {lb:Array Value} (hg:a.eval g=.func (.func gf) #[] lb) (eg:∀args w,(callFunc gf args).run P w=.ok (.enter gf args) w)
  {xs:List (Array Value)} {C:World->Prop} (hseq:SeqR P gf lb xs C) (hps:∀x∈xs,x.size=ps.size)
  (I:Nat->World->Prop) (hI:∀k W r o,I k W->W.heap[w.heap.size+1]? = some (.loop r)->I k (W.putObj (w.heap.size+1) o))
  (hIC:∀k W,I k W->C W)
  (h0:∀r,I 0 ((w.alloc (.deferred (some []))).alloc (.loop r))) (a₁:Array Value->Act)
  (hassign:∀(k:Nat) (x:Array Value) (W:World) (K:Act->World->Prop),xs[k]? = some x->K (a₁ x) W ->
   assign.wpIn (Fence.wide.inRound (w.heap.size+1)) 0 P (Exit.then K (λ_ _ _=>False)) { tmps:=(ps.zip x).foldl (λt (p,v)=>t.setIfInBounds p v) a.tmps,defers:=[] } W)
  (hbody:∀(k:Nat) (x:Array Value) (W:World) (r:Loop),xs[k]? = some x->I k W->W.heap[w.heap.size+1]? = some (.loop r)->W.heap[w.heap.size]? = some (.deferred (some [])) ->
   body.wpIn (Fence.wide.inRound (w.heap.size+1)) 0 P (λe _ W'=>e=.normal/\I (k+1) W'/\W'.heap[w.heap.size+1]? = W.heap[w.heap.size+1]?/\W'.heap[w.heap.size]? = W.heap[w.heap.size]?) (a₁ x) W)
  (hdone:∀(W:World),I xs.length W->W.heap[w.heap.size]? = some (.deferred (some []))->Q .normal { a with defers:={ target:=.collected w.heap.size,args:=#[] } :: a.defers } W) :
  (Code.rangeFunc g ps assign body).wpIn Fence.wide 0 P Q a w:=by
 refine wpIn_rangeFunc ?_;intro fn hfn;obtain⟨rec,hrec⟩:∃rec:LoopState->Option Code->Loop,rec=λst pe=>{ state:=st,pending:=pe,fn,tmps:=a.tmps,params:=ps,assign,body,defers:=w.heap.size }:=⟨_,rfl⟩
 obtain⟨W1,hW1⟩:∃W1,(w.alloc (.deferred (some []))).alloc (.loop (rec .ready none))=W1:=⟨_,rfl⟩;have hL1:W1.heap[w.heap.size+1]? = some (.loop (rec .ready none)):=by rw[<-hW1];have:=World.alloc_heap_new (w.alloc (.deferred (some []))) (.loop (rec .ready none));rwa [World.size_alloc] at this
 have hK1:W1.heap[w.heap.size]? = some (.deferred (some [])):=by rw[<-hW1];exact(Below.heap_alloc _ _ _ (by simp)).trans (World.alloc_heap_new w _)
 have hI1:I 0 W1:=by rw[<-hW1];exact h0 _
 refine⟨w.heap.size+1,[{ target:=.collected w.heap.size,args:=#[] }],W1,{ target:=.fn (.func gf) lb,args:=#[.func (.yield (w.heap.size+1)) #[] #[]] },W1,gf,
  #[.func (.yield (w.heap.size+1)) #[] #[]]++lb,W1,?_,?_,?_,?_,λh=>by simp[Fence.wide] at h,?_⟩
 ·rw[<-hW1,hrec];exact run_enterLoop_outer _ _ _ _ _
 ·simp only[resolve,hg];simp[go_sem]
 ·intro f' hf';trivial
 ·simp[invoke,go_sem,eg]
 ·refine(hseq (w.heap.size+1)
   (λk W=>I k W/\W.heap[w.heap.size+1]? = some (.loop (rec .ready none))/\W.heap[w.heap.size]? = some (.deferred (some [])))
   W1 (λk W h=>hIC k W h.1) ?_ ⟨hI1,hL1,hK1⟩).mono ?_
  ·rintro k x W hx ⟨hi,hl,hk⟩;have hlt:w.heap.size+1<W.heap.size:=(Array.getElem?_eq_some_iff.1 hl).1;have hy:=run_yield (P:=P) (args:=x) hl (by rw[hrec];exact hps x (List.mem_iff_getElem?.2 ⟨k,hx⟩))
   rw[hrec] at hy;refine⟨fn,_,assign,body,hy,roundIn_of_wpIn hfn (hassign k x W _ hx ?_)⟩;refine⟨_,run_beginRound hl (by rw[hrec]),?_⟩
   have hl2:(W.putObj (w.heap.size+1) (.loop { rec .ready none with state:=.busy })).heap[w.heap.size+1]? = some (.loop { rec .ready none with state:=.busy }):=World.putObj_heap_same hlt
   have hk2:(W.putObj (w.heap.size+1) (.loop { rec .ready none with state:=.busy })).heap[w.heap.size]? = some (.deferred (some [])):=(World.putObj_heap_other (by omega)).trans hk
   refine wpIn_mono (hbody k x _ _ hx (hI k W _ _ hi hl) hl2 hk2) ?_;rintro e a3 W3 ⟨rfl,hi3,e1,e2⟩;have hl3:=e1.trans hl2;have hk3:=e2.trans hk2;have hr:=run_endRound (P:=P) none hl3;have hlt3:w.heap.size+1<W3.heap.size:=(Array.getElem?_eq_some_iff.1 hl3).1;refine⟨_,_,hr,rfl,hI _ _ _ _ hi3 hl3,?_,(World.putObj_heap_other (by omega)).trans hk3⟩
   rw[World.putObj_heap_same hlt3,hrec];rfl
  ·rintro e W2 ⟨⟨v,rfl⟩,hi,hl,hk⟩;exact⟨none,_,by have:=run_endLoop (P:=P) hl (by rw[hrec];simp);rw[hrec] at this;exact this,hdone _ (hI _ _ _ _ hi hl) ((World.putObj_heap_other (by omega)).trans hk)⟩
end
end Go.Am
namespace Go.Am
open Go.Proofs
open Go Go.RowKit
attribute [local go_sem] Oper.semAt_some
def encP(p:Nat×Nat):Array Value:=#[.int .i64 p.1,.int .i64 p.2]
def rowP(n j i:Nat):List (Nat×Nat):=((List.range' i (n - i)).filter (·≠j)).map λi=>(j,i)
def zAd(n j:Nat):List (Nat×Nat):=(List.range' j (n - j)).flatMap λj=>rowP n j 0
def jL(n:Nat):List (Nat×Nat):=zAd n 0
theorem rowP_end(n j:Nat):rowP n j n=[]:=by simp[rowP]
theorem rowP_eq{n j:Nat}(h:j<n):rowP n j j=rowP n j (j+1):=by
 unfold rowP;rw[show n - j=(n - (j+1))+1 by omega,List.range'_succ]
 simp
theorem rowP_ne{n j i:Nat}(h:i<n)(hn:i≠j):rowP n j i=(j,i) :: rowP n j (i+1):=by
 unfold rowP;rw[show n - i=(n - (i+1))+1 by omega,List.range'_succ]
 simp[hn]
theorem restP_end(n:Nat):zAd n n=[]:=by simp[zAd]
theorem restP_succ{n j:Nat}(h:j<n):zAd n j=rowP n j 0++zAd n (j+1):=by
 unfold zAd;rw[show n - j=(n - (j+1))+1 by omega,List.range'_succ]
 simp
theorem mem_pairs{n:Nat}{p:Nat×Nat}(h:p∈jL n):p.1<n/\p.2<n/\p.1≠p.2:=by unfold jL zAd rowP at h;simp only[List.mem_flatMap,List.mem_range',List.mem_map,List.mem_filter] at h;obtain⟨a,⟨i,h1,h2⟩,b,⟨⟨k,h3,h4⟩,h5⟩,rfl⟩:=h;simp at h5;refine⟨by simp;omega,by simp;omega,λe=>h5 e.symm⟩
def qo:Value->Nat
 | .int _ x=>x.toNat
 | _=>0
set_option maxRecDepth 100000 in
set_option maxHeartbeats 2000000 in
theorem pairs_seq(ad:Addr)(n:Nat)(hn:(n:Int)<9223372036854775807) :
  SeqR Tryz.prog 282 #[.pointer (some ad)] ((jL n).map encP) (λW=>W.cell? ad=some (.int .i64 n)):=by
 intro l J W hC hY h0;refine callsIn_of_wp Tryz.func282 rfl trivial ?_ rfl;simp only[Tryz.ntmps282,List.size_toArray,List.length_cons,List.length_nil,Nat.reduceAdd,Nat.reduceSub,Array.replicate_succ,Array.replicate_zero,List.push_toArray,List.append_toArray,List.nil_append,List.cons_append];have hW:=hC _ _ h0
 gi_wp2
 gi_loopw [6] (λp wr=>∃j k:Nat,p=.int .i64 j/\j<=n/\k<=(jL n).length/\(jL n).drop k=zAd n j/\J k wr) (λp _=>n - qo p)
 case atStart=>exact⟨0,0,rfl,by omega,by omega,rfl,h0⟩
 case round =>
  obtain⟨j,k,rfl,hj,hk,hd,hJ⟩:=hrel;have hc:=hC _ _ hJ;by_cases hjn:j<n
  ·gi_wp2
   gi_loopw [10] (λp wr=>∃i k:Nat,p=.int .i64 i/\i<=n/\k<=(jL n).length/\(jL n).drop k=rowP n j i++zAd n (j+1)/\J k wr) (λp _=>n - qo p)
   case atStart=>exact⟨0,k,rfl,by omega,hk,hd.trans (restP_succ hjn),hJ⟩
   case round =>
    obtain⟨i,k',rfl,hi,hk',hd',hJ'⟩:=hrel;have hc':=hC _ _ hJ';by_cases hin:i<n
    ·by_cases hij:i=j
     ·iterate 48 gi_step
      refine And.intro (λ(f:FuncId) _=>trivial) ?_
      iterate 4 gi_step
      gi_wp2
      go_roundw
      case rel=>exact⟨i+1,k',by simp;omega,by omega,hk',by rw[hd',hij,rowP_eq hjn],hJ'⟩
      case measure=>simp[qo];omega
     ·have hx:(jL n).drop k'=(j,i) :: (rowP n j (i+1)++zAd n (j+1)):=by rw[hd',rowP_ne hin hij];rfl
      have hx0:((jL n).map encP)[k']? = some #[.int .i64 j,.int .i64 i]:=by
       have:(jL n)[k']? = some (j,i):=by have:=congrArg List.head? hx;simpa[List.head?_drop] using this
       rw[List.getElem?_map,this];rfl
      have hlt:k'<(jL n).length:=by have:=congrArg List.length hx;simp at this;omega
      have hx1:(jL n).drop (k'+1)=rowP n j (i+1)++zAd n (j+1):=by have:=congrArg (List.drop 1) hx;simpa[List.drop_drop,Nat.add_comm] using this
      obtain⟨fn,tmps,assign,body,hy,hR⟩:=hY k' _ wr hx0 hJ';have hne:¬(i:Int)=(j:Int):=by omega
      gi_wp2
      refine⟨rfl,hR.mono ?_⟩;rintro e W3 ⟨rfl,hJ3⟩
      gi_wp2
      go_roundw
      case rel=>exact⟨i+1,k'+1,by simp,by omega,by omega,hx1,hJ3⟩
      case measure=>simp[qo];omega
    ·gi_wp2
     obtain rfl:i=n:=by omega
     refine⟨⟨j+1,k',by simp,by omega,hk',by rw[hd',rowP_end,List.nil_append],hJ'⟩,by simp[qo];omega⟩
  ·gi_wp2
   go_end0
   obtain rfl:j=n:=by omega
   rw[restP_end] at hd;have:=List.drop_eq_nil_iff.1 hd;obtain rfl:k=(jL j).length:=by omega
   exact⟨⟨_,rfl⟩,by simpa using hJ⟩
end Go.Am
namespace Go.Am
open Go.Proofs
open Go Go.RowKit
attribute [local go_sem] Oper.semAt_some
def encI(m:Int):Array Value:=#[.int .i64 m]
def Q0(W:World)(b o:Nat)(l:List Int):Prop:=∀j (h:j<l.length),W.cell? ⟨b,o+j,none⟩=some (.int .i64 l[j])
set_option maxRecDepth 100000 in
set_option maxHeartbeats 2000000 in
theorem values_seq(ad:Addr)(b o c:Nat)(l:List Int)(hn:(l.length:Int)<9223372036854775807) :
  SeqR Tryz.prog 287 #[.pointer (some ad)] (l.map encI) (λW=>W.cell? ad=some (.slice (some ⟨b,o,none⟩) l.length c)/\Q0 W b o l):=by
 intro lo J W hC hY h0;refine callsIn_of_wp Tryz.func287 rfl trivial ?_ rfl;simp only[Tryz.ntmps287,List.size_toArray,List.length_cons,List.length_nil,Nat.reduceAdd,Nat.reduceSub,Array.replicate_succ,Array.replicate_zero,List.push_toArray,List.append_toArray,List.nil_append,List.cons_append];have hW:=(hC _ _ h0).1
 gi_wp2
 gi_loopw [7] (λp wr=>∃k:Nat,p=.int .i64 k/\k<=l.length/\J k wr) (λp _=>l.length - qo p)
 case atStart=>exact⟨0,rfl,Nat.zero_le _,h0⟩
 case round =>
  obtain⟨k,rfl,hk,hJ⟩:=hrel;by_cases hkn:k<l.length
  ·have hc:=(hC _ _ hJ).2 k hkn;have hx:(l.map encI)[k]? = some #[.int .i64 l[k]]:=by rw[List.getElem?_map,List.getElem?_eq_getElem hkn];rfl
   obtain⟨fn,tmps,assign,body,hy,hR⟩:=hY k _ wr hx hJ
   gi_wp2
   refine⟨rfl,hR.mono ?_⟩;rintro e W3 ⟨rfl,hJ3⟩
   gi_wp2
   go_roundw
   case rel=>exact⟨k+1,by simp,by omega,hJ3⟩
   case measure=>simp[qo];omega
  ·gi_wp2
   go_end0
   obtain rfl:k=l.length:=by omega
   exact⟨⟨_,rfl⟩,by simpa using hJ⟩
set_option maxRecDepth 100000 in
set_option maxHeartbeats 2000000 in
theorem values_none(ad:Addr)(a:Option Addr)(c:Nat) :
  SeqR Tryz.prog 287 #[.pointer (some ad)] [] (λW=>W.cell? ad=some (.slice a 0 c)):=by
 intro lo J W hC hY h0;refine callsIn_of_wp Tryz.func287 rfl trivial ?_ rfl;simp only[Tryz.ntmps287,List.size_toArray,List.length_cons,List.length_nil,Nat.reduceAdd,Nat.reduceSub,Array.replicate_succ,Array.replicate_zero,List.push_toArray,List.append_toArray,List.nil_append,List.cons_append];have hW:=hC _ _ h0
 gi_wp2
 gi_loopw [7] (λp wr=>p=.int .i64 0/\J 0 wr) (λp _=>0)
 case atStart=>exact⟨rfl,h0⟩
 case round =>
  obtain⟨rfl,hJ⟩:=hrel
  gi_wp2
  go_end0
  exact⟨⟨_,rfl⟩,hJ⟩
end Go.Am
