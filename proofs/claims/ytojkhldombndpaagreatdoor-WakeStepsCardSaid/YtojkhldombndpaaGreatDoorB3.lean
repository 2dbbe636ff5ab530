/- The abstract machine, the contracts of the functions that are walked by hand, and the examples of the document. Part 3. -/
import Derived.Test.YtojkhldombndpaaGreatDoorB2
set_option linter.all false
namespace Go.Am
open Go.Proofs
open Go Go.RowKit
section
variable{P:Program}{E:Env}{base:Nat}{S S':Nat->Prop}{φ:Nat->Option Nat}{st:St}{a:Act}{w w':World}
def zAA(E:Env)(S:Nat->Prop)(w:World)(r:CR)(v:Value)(w':World):Prop :=
 ∃S':Nat->Prop,Below w.heap.size w w'/\(∀b,S b->S' b)/\(∀b,S' b->S b\/w.heap.size<=b)/\(∀b,S' b->b<w'.heap.size) /\
  match r with
  | .val x=>RV E.L S' w' x v
  | .fresh sz xs=>∃cb,w.heap.size<=cb/\¬S' cb/\(∀φ,RB E.L S' φ w' (.dc sz xs) cb)/\∀(φ:Nat->Option Nat) s,φ s=some cb->RAV E.L S' φ w' (.own s 0 xs.length sz) v
def Enters(P:Program)(f:FuncId):Prop:=∃fn,P.funcs[f]? = some fn/\(fn.name == "runtime.NumGoroutine")=false/\fn.body.isNone=false
def jw(P:Program)(E:Env)(call:FuncId->List DV->Option CR):Prop :=
 ∀f ds r,call f ds=some r->Enters P f/\∀(S:Nat->Prop) (w:World) (vals:List Value),GlobOK E S w->(∀b,S b->b<w.heap.size)->vals.length=ds.length ->
  (∀i (h:i<ds.length) (h':i<vals.length),RV E.L S w ds[i] vals[i])->Calls P f vals.toArray w λe w'=>∃v,e=.returned v/\zAA E S w r v w'
theorem memFree_one{x:DV}(h:Yi x=true)(hx:x.isTup=false){cs:List Value}(hr:RD E.L S w x cs)(S':Nat->Prop)(w':World):RD E.L S' w' x cs:=by
 cases hr with
 | bool b=>exact .bool b
 | int k n=>exact .int k n
 | flt k b=>exact .flt k b
 | cpx k x y=>exact .cpx k x y
 | str s=>exact .str s
 | nl a=>exact .nl a
 | nilFn=>exact .nilFn
 | nilPtr=>exact .nilPtr
 | nilMp=>exact .nilMp
 | nilIf=>exact .nilIf
 | _=>simp[Yi] at h
theorem memFree_sound{x:DV}(h:Yi x=true){v:Value}(hr:RV E.L S w x v)(S':Nat->Prop)(w':World):RV E.L S' w' x v:=by
 cases x with
 | tup xs =>
  obtain⟨vs,e,hl,hp⟩:=hr;refine⟨vs,e,hl,λi a b=>⟨?_,(hp i a b).2⟩⟩
  have hi:=(hp i a b).1;simp only[Yi,List.all_eq_true] at h;have hm:=h xs[i] (List.getElem_mem a);refine memFree_one ?_ hi.notTup hi S' w';revert hm;cases xs[i] <;> simp[Yi]
 | _=>exact⟨memFree_one h rfl hr.1 S' w',hr.2⟩
theorem ListOK.append{L:Nat->List Nat}{xs ys:List AV}{us vs:List Value}(h:ListOK L S φ w xs us)(k:ListOK L S φ w ys vs):ListOK L S φ w (xs++ys) (us++vs):=by
 refine⟨by simp[h.1,k.1],λi a b=>?_⟩
 by_cases hi:i<xs.length
 ·rw[List.getElem_append_left hi,List.getElem_append_left (by rw[h.1];exact hi)]
  exact h.2 i hi _
 ·rw[List.getElem_append_right (by omega),List.getElem_append_right (by rw[h.1];omega)]
  simp only[h.1];exact k.2 _ _ _
theorem calleeOf_sound{f:AV}{c:FuncId×List AV×List AV}(h:YJ f=some c){u:Value}(hu:RAV E.L S φ w f u) :
  ∃v1 v2:List Value,u=.func (.func c.1) v1.toArray v2.toArray/\ListOK E.L S φ w c.2.1 v1/\ListOK E.L S φ w c.2.2 v2:=by
 unfold YJ at h;split at h
 ·rename_i f' x y;injection h with h;subst h
  obtain⟨hr,ha⟩:=(hu:RV E.L S w (.fn f' x y) u);rw[jF ha] at hr;cases hr with
  | fn _ _ _ vx vy hx hy h1 h2 h3 h4 =>
   refine⟨vx,vy,rfl,⟨by simpa using hx,λi a b=>?_⟩,⟨by simpa using hy,λi a b=>?_⟩⟩
   ·simp only[List.getElem_map];have:=h1 i (by simpa using a) b
    exact RV.of this.notTup this (h2 i (by simpa using a) b)
   ·simp only[List.getElem_map];have:=h3 i (by simpa using a) b
    exact RV.of this.notTup this (h4 i (by simpa using a) b)
 ·rename_i f' x y;injection h with h;subst h
  obtain⟨hr,ha⟩:=hu;rw[jF ha] at hr;cases hr with
  | fn _ _ _ vx vy hx hy h1 h2 h3 h4 =>
   exact⟨vx,vy,rfl,⟨hx,λi a b=>RAV.of (h1 i a b) (h2 i a b)⟩,⟨hy,λi a b=>RAV.of (h3 i a b) (h4 i a b)⟩⟩
 ·simp at h
theorem zAI(h:Rel E base S φ st a w):∀(vs:List AV) (us:List Value) (ds:List DV),JY st.hp vs=some ds->ListOK E.L S φ w vs us ->
  ds.length=vs.length/\∀i (h:i<ds.length) (h':i<us.length),RV E.L (Plus S φ st.hp (jb st.hp vs)) w ds[i] us[i]
 | [],us,ds,hs,hl=>by
  simp[JY] at hs;subst hs;exact⟨rfl,λi a=>by simp at a⟩
 | v :: vs,[],ds,hs,hl=>absurd hl.1 (by simp)
 | v :: vs,u :: us,ds,hs,hl=>by
  simp only[JY] at hs;obtain⟨x,hx,hs⟩:=bind_some hs;obtain⟨xs,hxs,hs⟩:=bind_some hs;injection hs with hs;subst hs
  have h0:=hl.2 0 (by simp) (by simp)
  obtain⟨h1,h2⟩:=zAI h vs us xs hxs ⟨by simpa using hl.1,λi a b=>hl.2 (i+1) (by simp;omega) (by simp;omega)⟩
  refine⟨by simp[h1],λi a b=>?_⟩
  cases i with
  | zero=>exact RV.mono (snapV h hx h0) (Plus.mono λs hs=>by simp[jb,hs]) λ_ _=>rfl
  | succ i=>exact RV.mono (h2 i (by simpa using a) (by simpa using b)) (Plus.mono λs hs=>by simp[jb,hs]) λ_ _=>rfl
def Post(E:Env)(base:Nat)(S:Nat->Prop)(w:World)(st':St)(a':Act)(w':World):Prop:=∃S' φ',Rel E base S' φ' st' a' w'/\Grow base S S' w w'
theorem Rel.res(h:Rel E base S φ st a w){S2:Nat->Prop}(hb:Below w.heap.size w w')(h1:∀b,S b->S2 b)(h2:∀b,S2 b->S b\/w.heap.size<=b)(h3:∀b,S2 b->b<w'.heap.size) :
  Rel E base S2 φ st a w'/\Grow base S S2 w w':=by
 have g:Grow base S S2 w w':=⟨hb.mono h.base,h1,λb hb'=>(h2 b hb').imp id λhh=>Nat.le_trans h.base hh,λb hb'=>hb.block b (h.lt b hb')⟩
 exact⟨h.world g h3 (λb hlt hn hs=>(h2 b hs).elim hn λhh=>by omega) hb.block,g⟩
theorem callE_sound(h:Rel E base S φ st a w){call:FuncId->List DV->Option CR}(hc:jw P E call){s:Nat}{f:AV}{args:List AV}{uf:Value}{us:List Value}(hf:RAV E.L S φ w f uf)(hu:ListOK E.L S φ w args us)
  {ef:Eff} (he:qN call s st.hp f args=some ef) (dst:Option Tmp) {st':St}
  (hst:(match ef.new with
   | none=>some (zo ef dst s st)
   | some b=>zv (dst.isSome && zl s b) (some (zo ef dst s (clear s st))))=some st') :
  ∃(g:FuncId) (v1 v2:List Value),uf=.func (.func g) v1.toArray v2.toArray/\Enters P g/\Calls P g (v1++us++v2).toArray w λe w'=>∃v,e=.returned v/\Post E base S w st' (a.put dst v) w':=by
 unfold qN at he;obtain⟨c,hcl,he1⟩:=bind_some he;clear he;obtain⟨ds,hds,he2⟩:=bind_some he1;clear he1;obtain⟨r,hr,he3⟩:=bind_some he2;clear he2;injection he3 with he3;subst he3
 obtain⟨v1,v2,rfl,hl1,hl2⟩:=calleeOf_sound hcl hf;have hl:=(hl1.append hu).append hl2;obtain⟨hdl,hrv⟩:=zAI h _ _ _ hds hl;obtain⟨hent,hcall⟩:=hc c.1 ds r hr;obtain⟨S1,hR1,hG1,hS1⟩:=h.freezeL (jb st.hp (c.2.1++args++c.2.2));refine⟨c.1,v1,v2,rfl,hent,?_⟩;refine Calls.mono (hcall S1 w (v1++us++v2) hR1.glob hR1.lt (by rw[hl.1,hdl]) (λi a b=>RV.mono (hrv i a b) (λx hx=>(hS1 x).2 hx) λ_ _=>rfl)) λe w' hres=>?_
 obtain⟨v,rfl,S2,hb,k1,k2,k3,hv⟩:=hres;refine⟨v,rfl,?_⟩;generalize hss:jb st.hp (c.2.1++args++c.2.2)=ss at *
 cases r with
 | val x =>
  simp only at hv;by_cases hm:Yi x=true/\ss≠[]
  ·have hfz:(deliver s ss (.val x))={ v:=.d x }:=by
    simp only[deliver];cases ss with
    | nil=>exact absurd rfl hm.2
    | cons b ss=>simp[hm.1]
   rw[hfz] at hst;injection hst with hst;subst hst
   obtain⟨hR,hG⟩:=h.res (S2:=S) hb (λ_ h=>h) (λ_ h=>.inl h) (λb hb'=>Nat.lt_of_lt_of_le (h.lt b hb') hb.size)
   exact⟨S,φ,hR.put dst (v:=.d x) (memFree_sound hm.1 hv S w'),hG⟩
  ·have hfz:(deliver s ss (.val x))={ v:=.d x,frz:=ss }:=by
    simp only[deliver];cases ss with
    | nil=>rfl
    | cons b ss =>
     have:Yi x=false:=by
      cases h:Yi x with
      | false=>rfl
      | true=>exact absurd ⟨h,by simp⟩ hm
     simp[this]
   rw[hfz] at hst;injection hst with hst;subst hst
   obtain⟨hR,hG⟩:=hR1.res hb k1 k2 k3;exact⟨S2,φ,hR.put dst (v:=.d x) hv,hG1.trans hG⟩
 | fresh sz xs =>
  simp only[deliver] at hst;obtain⟨hgd,hst⟩:=zJ hst;injection hst with hst;subst hst
  obtain⟨cb,hcb,hnS,hrb,hva⟩:=hv;obtain⟨hR,hG⟩:=hR1.res hb k1 k2 k3;have hR2:=hR.clear s;have hnew:=hR2.new (w':=w') (s:=s) (cb:=cb) (blk:=.dc sz xs) (by simp[upd]) (Nat.le_trans h.base hcb) hnS ⟨rfl,rfl,rfl,Nat.le_refl _,λ_ _ _=>rfl,λ_ h=>h⟩ (λb ob hb'=>by
   obtain⟨hns,ob0,h0,_⟩:=Jf hb';unfold upd;rw[if_neg hns];obtain⟨c',hc',_,hr',_⟩:=hR1.blk b ob0 h0;rw[hc'];intro e;injection e with e
   have:=hr'.lt;omega) (hrb _)
  refine⟨S2,upd (upd φ s none) s (some cb),?_,hG1.trans hG⟩;have happ:zo { v:=.own s 0 xs.length sz,new:=some (.dc sz xs),frz:=ss } dst s (clear s st) =
    { tm:=putT (clear s { st with hp:=Am.freezeL st.hp ss }).tm dst (.own s 0 xs.length sz),hp:=((clear s { st with hp:=Am.freezeL st.hp ss }).hp).set s (some ⟨false,.dc sz xs⟩) }:=by
   simp only[zo,updB,kilB,clear,qT]
  rw[happ];exact hnew.put dst (v:=.own s 0 xs.length sz) (hva _ s (by simp[upd]))
end
end Go.Am
namespace Go.Am
open Go.Proofs
open Go Go.RowKit
section
variable{P:Program}{E:Env}{base:Nat}{S S':Nat->Prop}{φ:Nat->Option Nat}{st:St}{a:Act}{w w':World}
theorem Done.wp{st':St}{o:Oper}{Q:Exit->Act->World->Prop}(h:Done E base S st' a o.dst w ((execOp a.eval o).run P w)):o.wp P a w (Post E base S w st') Q:=by
 obtain⟨n,u,w',S',φ',hr,hn,hR,hG⟩:=h;unfold Oper.wp;rw[hr];rcases hn with rfl | ⟨rfl,rfl⟩
 ·exact⟨S',φ',hR,hG⟩
 ·exact⟨S',φ',hR,hG⟩
theorem Rel.alloc(h:Rel E base S φ st a w)(o:Obj):Rel E base S φ st a (w.alloc o)/\Grow base S S w (w.alloc o) :=
 h.res (Below.alloc (Below.refl _ w) (Nat.le_refl _) o) (λ_ h=>h) (λ_ h=>.inl h) (λb hb=>Nat.lt_of_lt_of_le (h.lt b hb) (by simp))
theorem Rel.drew(h:Rel E base S φ st a w):Rel E base S φ st a w.drew/\Grow base S S w w.drew :=
 h.res (Below.drew (Below.refl _ w)) (λ_ h=>h) (λ_ h=>.inl h) (λb hb=>h.lt b hb)
theorem Qf{st':St}{o:Oper}{v:AV}{u:Value}(h:Rel E base S φ st a w)(hr:(execOp a.eval o).run P w=.ok (.value u) w)(hv:RAV E.L S φ w v u)
  (hst:some (zo { v } o.dst (zc o) st)=some st'):Done E base S st' a o.dst w ((execOp a.eval o).run P w):=by
 injection hst with hst;subst hst
 exact⟨_,u,w,S,φ,hr,.inl rfl,h.put o.dst hv,Grow.refl⟩
theorem step_sound(hD:DOK P E){call:FuncId->List DV->Option CR}(hc:jw P E call)(h:Rel E base S φ st a w){o:Oper}{st':St}(hs:YE E call o st=some st'){Q:Exit->Act->World->Prop} :
  o.wp P a w (Post E base S w st') Q:=by
 unfold YE at hs;obtain⟨ef,he,hs1⟩:=bind_some hs;clear hs;obtain⟨hok,hst⟩:=zJ hs1;clear hs1;by_cases hp:pureOp o.op=true
 ·obtain⟨v,u,rfl,hr,hv⟩:=pure_sound hD h.ev hp he;exact(Qf h (hr w) hv hst).wp
 cases ho:o.op <;> simp only[ho,pureOp] at hp <;> try (simp at hp;done)
 all_goals simp only[ho,effE] at he
 all_goals try (simp at he;done)
 case alloc t =>
  exact(NewTo.done h (allocE_sound hD h.lt he) (by simp only[execOp,ho]) hst).wp
 case box t x =>
  obtain⟨v,hv,he1⟩:=bind_some he;exact(NewTo.done h (boxE_sound hD h.lt (h.ev x v hv) he1) (by simp only[execOp,ho]) hst).wp
 case buildSlice t n ps =>
  obtain⟨vs,hv,he1⟩:=bind_some he;have hps:=qV h.ev _ _ hv;rcases zBZ (us:=ps.map λ(i,x)=>(i,a.eval x)) hD h.lt he1 (by simpa using hps) with hn | ⟨rfl,u,ob,hr,hrv⟩
  ·exact(NewTo.done h hn (by simp only[execOp,ho]) hst).wp
  ·injection hst with hst;subst hst
   obtain⟨hR,hG⟩:=h.alloc ob;refine Done.wp ⟨.value u,u,w.alloc ob,S,φ,?_,.inl rfl,hR.put o.dst (v:=.d .nl) (hrv _),hG⟩;simp only[execOp,ho,Sem.run_bind,hr,Result.andThen_ok,Sem.run_pure]
 case load t x =>
  obtain⟨v,hv,he1⟩:=bind_some he;obtain⟨r,u,rfl,hr,hrv⟩:=qL hD h (h.ev x v hv) he1;exact(Qf h (by simp only[execOp,ho,Sem.run_bind,hr,Result.andThen_ok,Sem.run_pure]) hrv hst).wp
 case store t x y =>
  obtain⟨v,hv,he1⟩:=bind_some he;obtain⟨v2,hv2,he2⟩:=bind_some he1;obtain⟨hn,w',hr,hR,hG⟩:=storeE_sound hD h (h.ev x v hv) (h.ev y v2 hv2) he2 o.dst (zc o);rw[hn] at hst;injection hst with hst;subst hst
  refine Done.wp ⟨.skip,undef,w',S,φ,?_,.inr ⟨rfl,rfl⟩,hR,hG⟩;simp only[execOp,ho,Sem.run_bind,hr,Result.andThen_ok,Sem.run_pure]
 case makeMap t r =>
  cases r with
  | some r=>simp at he
  | none =>
   simp only at he;obtain⟨td,htd,he1⟩:=bind_some he;split at he1
   ·injection he1 with he1;subst he1
    exact(NewTo.done h (makeMapE_sound (t:=t)) (by simp only[execOp,ho,Option.map_none]) hst).wp
   ·simp at he1
 case makeSlice t x y =>
  obtain⟨v,hv,he1⟩:=bind_some he;obtain⟨v2,hv2,he2⟩:=bind_some he1;exact(NewTo.done h (makeSliceE_sound hD h.lt (h.ev x v hv) (h.ev y v2 hv2) he2) (by simp only[execOp,ho]) hst).wp
 case lookup t m k ok =>
  obtain⟨v,hv,he1⟩:=bind_some he;obtain⟨v2,hv2,he2⟩:=bind_some he1;obtain⟨r,u,rfl,hr,hrv⟩:=lookupE_sound hD h (h.ev m v hv) (h.ev k v2 hv2) he2;exact(Qf h (by simp only[execOp,ho,Sem.run_bind,hr,Result.andThen_ok,Sem.run_pure]) hrv hst).wp
 case mapUpdate t m k x =>
  obtain⟨v,hv,he1⟩:=bind_some he;obtain⟨v2,hv2,he2⟩:=bind_some he1;obtain⟨v3,hv3,he3⟩:=bind_some he2;obtain⟨hn,w',hr,hR,hG⟩:=qd hD h (h.ev m v hv) (h.ev k v2 hv2) (h.ev x v3 hv3) he3 o.dst (zc o);rw[hn] at hst;injection hst with hst;subst hst
  refine Done.wp ⟨.skip,undef,w',S,φ,?_,.inr ⟨rfl,rfl⟩,hR,hG⟩;simp only[execOp,ho,Sem.run_bind,hr,Result.andThen_ok,Sem.run_pure]
 case insert t m k x =>
  obtain⟨v,hv,he1⟩:=bind_some he;obtain⟨v2,hv2,he2⟩:=bind_some he1;obtain⟨v3,hv3,he3⟩:=bind_some he2;obtain⟨hn,w',hr,hR,hG⟩:=qd hD h (h.ev m v hv) (h.ev k v2 hv2) (h.ev x v3 hv3) he3 o.dst (zc o);rw[hn] at hst;injection hst with hst;subst hst
  refine Done.wp ⟨.skip,undef,w',S,φ,?_,.inr ⟨rfl,rfl⟩,hR,hG⟩;simp only[execOp,ho,Sem.run_bind,hr,Result.andThen_ok,Sem.run_pure]
 case range t x =>
  obtain⟨td,htd,he1⟩:=bind_some he;split at he1
  case h_2=>simp at he1
  rename_i hk;obtain⟨v,hv,he2⟩:=bind_some he1;exact(NewTo.done h (rangeE_sound (h.ev x v hv) hD htd hk he2) (by simp only[execOp,ho]) hst).wp
 case next x b =>
  obtain⟨v,hv,he1⟩:=bind_some he;obtain⟨hn,r,w',hr,hR,hG⟩:=nextE_sound (P:=P) h (h.ev x v hv) he1 o.type o.dst (zc o);rw[hn] at hst;injection hst with hst;subst hst
  refine Done.wp ⟨.value r,r,w',S,φ,?_,.inl rfl,hR,hG⟩;simp only[execOp,ho,Sem.run_bind,hr,Result.andThen_ok,Sem.run_pure]
 case call c =>
  obtain⟨vs,hv,he1⟩:=bind_some he;have hl:=evL_ok h.ev hv;cases hcc:c.callee with
  | invoke r m=>rw[hcc] at he1;simp at he1
  | builtin b =>
   simp only[hcc] at hp;rw[hcc] at he1;have hrun:(execOp a.eval o).run P w=(builtin b c.argTypes o.type (c.args.map λ| .const _=>true | _=>false) (c.args.toList.map a.eval).toArray).run P w:=by simp only[execOp,ho,resolve,hcc,<-amap];simp[invoke];rfl
   cases b <;> try (simp at he1 hp;done)
   case append =>
    obtain⟨r,w',S',φ',hr,hR,hG⟩:=appendE_sound hD h hl he1 hok o.type o.dst hst;refine Done.wp ⟨.value r,r,w',S',φ',?_,.inl rfl,hR,hG⟩;rw[hrun];simp only[builtin,Sem.run_bind,hr,Result.andThen_ok,Sem.run_pure]
   case copy =>
    obtain⟨hn,r,w',S',hr,hR,hG⟩:=copyE_sound hD h hl he1 hok o.type o.dst (zc o);rw[hn] at hst;injection hst with hst;subst hst
    refine Done.wp ⟨.value r,r,w',S',φ,?_,.inl rfl,hR,hG⟩;rw[hrun];simp only[builtin,Sem.run_bind,hr,Result.andThen_ok,Sem.run_pure]
   case len =>
    obtain⟨v,r,rfl,hr,hrv⟩:=lenE_sound hD h hl he1 o.type;exact(Qf h (by rw[hrun];simp only[builtin,Sem.run_bind,hr,Result.andThen_ok,Sem.run_pure]) hrv hst).wp
  | value f =>
   rw[hcc] at he1;simp only at he1;obtain⟨vf,hvf,he2⟩:=bind_some he1;obtain⟨g,v1,v2,hu,⟨fn,hf,hname,hbody⟩,hcalls⟩:=callE_sound h hc (h.ev f vf hvf) hl he2 o.dst hst;have hrun:(execOp a.eval o).run P w=.ok (.enter g (v1++c.args.toList.map a.eval++v2).toArray) w:=by
    have e1:(c.args.map a.eval)=(c.args.toList.map a.eval).toArray:=amap _ _;have hn1:¬fn.name="runtime.NumGoroutine":=by simpa using hname
    have hb1:¬fn.body=none:=by intro e;rw[e] at hbody;simp at hbody
    simp[execOp,ho,resolve,hcc,hu,Deferred.ofValue,invoke,callFunc,hf,hn1,hb1,e1]
   unfold Oper.wp;rw[hrun,Oper.upon_enter];refine Calls.mono hcalls λe w' hh=>?_
   obtain⟨v,rfl,hP⟩:=hh;exact hP
theorem zBe{ops:Array Oper}{o:Oper}{tm:List AV}(h:TmOK E.L S φ w tm a){g:Bool}(hg:jn ops.toList o tm=some g):Region.wanted o (yielded ops a.tmps)=g:=by
 unfold jn at hg;unfold Region.wanted;cases hgd:o.guard with
 | none=>rw[hgd] at hg;injection hg with hg
 | some p =>
  obtain⟨j,want⟩:=p;rw[hgd] at hg;simp only at hg ⊢;split at hg
  case h_2=>simp at hg
  rename_i q hq;split at hg
  case h_2=>simp at hg
  rename_i t ht;have hy:yielded ops a.tmps j=match a.tmps[t]? with | some (.bool b)=>some b | _=>none:=by unfold yielded;rw[<-Array.getElem?_toList,hq];simp[ht];rfl
  split at hg
  ·rename_i b hb;injection hg with hg;subst hg
   obtain⟨u,hu,hr⟩:=h t _ hb;have:=RV.bool (show RV E.L S w (.bool b) u from hr)
   subst this;rw[hy,hu];cases b <;> cases want <;> rfl
  ·rename_i hb;injection hg with hg;subst hg
   obtain⟨u,hu,hr⟩:=h t _ hb;obtain⟨vs,rfl,_⟩:=(show RV E.L S w (.tup []) u from hr)
   rw[hy,hu];rfl
  ·simp at hg
theorem Rel.skip(h:Rel E base S φ st a w)(dst:Option Tmp):Rel E base S φ { st with tm:=putT st.tm dst (.d (.tup [])) } (a.put dst undef) w :=
 h.put dst (v:=.d (.tup [])) ⟨[],rfl,rfl,λi a=>by simp at a⟩
theorem Yo(hD:DOK P E){call:FuncId->List DV->Option CR}(hc:jw P E call){ops:Array Oper}{K:St->Option CR}{r:CR}{Q:Exit->Act->World->Prop} :
  ∀(rest:List Oper) (i:Nat) {S:Nat->Prop} {φ:Nat->Option Nat} {st:St} {a:Act} {w:World},rest=ops.toList.drop i->i<=ops.size->QG (YE E call) ops.toList rest st K=some r->Rel E base S φ st a w ->
   (∀st' S' φ' a' w',K st'=some r->Rel E base S' φ' st' a' w'->Grow base S S' w w'->Q .normal a' w')->wpOps P ops Q (List.range' i (ops.size - i)) a w
 | [],i,S,φ,st,a,w,hr,hi,h,hR,hK=>by
  have:ops.size - i=0:=by have:=congrArg List.length hr;simp at this;omega
  rw[this];exact hK st S φ a w h hR Grow.refl
 | o :: rest,i,S,φ,st,a,w,hr,hi,h,hR,hK=>by
  have hlt:i<ops.size:=by have:=congrArg List.length hr;simp at this;omega
  have hcons:ops.toList.drop i=ops.toList[i] :: ops.toList.drop (i+1):=List.drop_eq_getElem_cons (by simpa using hlt)
  rw[hcons] at hr;injection hr with ho hrest
  have hoi:ops[i]? = some o:=by rw[ho];simp[hlt]
  have hn:ops.size - i=(ops.size - (i+1))+1:=by omega
  rw[hn,List.range'_succ];simp only[QG] at h;obtain⟨g,hg,h⟩:=bind_some h;have hw:=zBe hR.tm hg;simp only[wpOps,hoi,hw];cases g with
  | true =>
   obtain⟨st',hs,h⟩:=bind_some h;refine .inl (Oper.wp_mono (λa' w' hp=>?_) (step_sound hD hc hR hs))
   obtain⟨S',φ',hR',hG⟩:=hp;exact Yo hD hc rest (i+1) hrest hlt h hR' λst2 S2 φ2 a2 w2 k1 k2 k3=>hK st2 S2 φ2 a2 w2 k1 k2 (hG.trans k3)
  | false =>
   exact Yo hD hc rest (i+1) hrest hlt h (hR.skip o.dst) λst2 S2 φ2 a2 w2 k1 k2 k3=>hK st2 S2 φ2 a2 w2 k1 k2 k3
end
end Go.Am
namespace Go.Am
open Go.Proofs
open Go Go.RowKit
section
variable{E:Env}{s:Nat}
theorem jp{l:List AV}(h:jU s l=true){v:AV}(hv:v∈l):noRef s v=true:=by
 induction l with
 | nil=>simp at hv
 | cons x r ih =>
  simp only[jU,Bool.and_eq_true] at h;rcases List.mem_cons.1 hv with rfl | hv
  ·exact h.1
  ·exact ih h.2 hv
theorem Yw{l:List AV}(h:∀v∈l,noRef s v=true):jU s l=true:=by
 induction l with
 | nil=>rfl
 | cons x r ih=>simp only[jU,Bool.and_eq_true];exact⟨h x (by simp),ih λv hv=>h v (by simp[hv])⟩
theorem qD(xs:List DV):jU s (xs.map .d)=true:=Yw λv hv=>by obtain⟨x,_,rfl⟩:=List.mem_map.1 hv;rfl
theorem noRef_mkAgg{tag:Nat}{fs:List AV}(h:jU s fs=true):noRef s (mkAgg tag fs)=true:=by unfold mkAgg;split <;> first | rfl | exact h
theorem noRef_mkFn{f:FuncId}{x y:List AV}(h:jU s x=true)(k:jU s y=true):noRef s (mkFn f x y)=true:=by
 unfold mkFn;split
 ·rfl
 ·simp only[noRef,h,k,Bool.and_true]
theorem zBc{sz:Nat}{vs:List AV}(h:jU s vs=true):zl s (mkBlk sz vs)=true:=by unfold mkBlk;split <;> first | rfl | exact h
theorem Ql{tag i:Nat}{v x:AV}(h:getF tag i v=some x)(hv:noRef s v=true):noRef s x=true:=by
 unfold getF at h;split at h
 ·split at h
  ·split at h
   ·injection h with h;subst h;rfl
   ·simp at h
  ·simp at h
 ·split at h
  ·exact jp (by simpa[noRef] using hv) (List.mem_of_getElem? h)
  ·simp at h
 ·simp at h
theorem Qk:∀(p:List (Nat×Nat)) {v x:AV},getP p v=some x->noRef s v=true->noRef s x=true
 | [],v,x,h,hv=>by simp[getP] at h;subst h;exact hv
 | (tag,i) :: p,v,x,h,hv=>by
  simp only[getP] at h;split at h
  ·rename_i y hy;exact Qk p h (Ql hy hv)
  ·simp at h
theorem Y5{l:List AV}{i:Nat}{v:AV}(h:jU s l=true)(hv:noRef s v=true):jU s (l.set i v)=true :=
 Yw λx hx=>by
  rcases List.mem_or_eq_of_mem_set hx with hx | rfl
  ·exact jp h hx
  ·exact hv
theorem noRef_setF{tag i:Nat}{new v x:AV}(h:setF tag i new v=some x)(hn:noRef s new=true)(hv:noRef s v=true):noRef s x=true:=by
 unfold setF at h;split at h
 ·split at h
  ·split at h
   ·split at h
    ·injection h with h;subst h;rfl
    ·injection h with h;subst h;exact Y5 (qD _) hn
   ·simp at h
  ·simp at h
 ·split at h
  ·split at h
   ·injection h with h;subst h;exact noRef_mkAgg (Y5 (by simpa[noRef] using hv) hn)
   ·simp at h
  ·simp at h
 ·simp at h
theorem noRef_setP{L:Nat->List Nat}:∀(p:List (Nat×Nat)) {new v x:AV},setP L p new v=some x->noRef s new=true->noRef s v=true->noRef s x=true
 | [],new,v,x,h,hn,hv=>by simp[setP] at h;subst h;exact hn
 | (tag,i) :: p,new,v,x,h,hn,hv=>by
  simp only[setP] at h;split at h
  case h_2=>simp at h
  rename_i y hy;split at h
  case h_2=>simp at h
  rename_i z hz;split at h
  ·exact noRef_setF h (noRef_setP p hz hn (Ql hy hv)) hv
  ·simp at h
theorem zAg{sz e:Nat}{blk:Blk}{v:AV}(h:blk.get sz e=some v)(hb:zl s blk=true):noRef s v=true:=by
 unfold Blk.get at h;split at h
 ·split at h
  ·split at h
   ·injection h with h;subst h;rfl
   ·simp at h
  ·simp at h
 ·split at h
  ·exact jp (by simpa[zl] using hb) (List.mem_of_getElem? h)
  ·simp at h
 ·simp at h
theorem noRefB_set{sz e:Nat}{blk blk':Blk}{v:AV}(h:blk.set sz e v=some blk')(hb:zl s blk=true)(hv:noRef s v=true):zl s blk'=true:=by
 unfold Blk.set at h;split at h
 ·split at h
  ·split at h
   ·split at h
    ·injection h with h;subst h;rfl
    ·injection h with h;subst h;exact Y5 (qD _) hv
   ·simp at h
  ·simp at h
 ·split at h
  ·split at h
   ·injection h with h;subst h;exact Y5 (by simpa[zl] using hb) hv
   ·simp at h
  ·simp at h
 ·simp at h
theorem zBK{L:Nat->List Nat}{sizes:List Nat}:∀{ps:List (Nat×AV)} {vs r:List AV},fill L sizes ps vs=some r->(∀p∈ps,noRef s p.2=true)->jU s vs=true->jU s r=true
 | [],vs,r,h,_,hv=>by simp[fill] at h;subst h;exact hv
 | (i,v) :: ps,vs,r,h,hp,hv=>by
  simp only[fill] at h;split at h
  ·exact zBK h (λp hm=>hp p (by simp[hm])) (Y5 hv (hp (i,v) (by simp)))
  ·simp at h
theorem sites_noRef{hp:List (Option OB)}(hh:∀b ob,slot hp b=some ob->zl s ob.blk=true):∀(n:Nat) (v:AV),noRef s v=true->s ∉ sites hp n v:=by
 intro n;induction n with
 | zero =>
  intro v hv;cases v <;> simp only[sites,noRef] at * <;> simp_all
  all_goals (intro e;subst e;simp at hv)
 | succ n ih =>
  intro v hv;cases v with
  | d x=>simp[sites]
  | undef=>simp[sites]
  | omp b=>simp only[noRef] at hv;simp only[sites,List.mem_singleton];intro e;subst e;simp at hv
  | it b=>simp only[noRef] at hv;simp only[sites,List.mem_singleton];intro e;subst e;simp at hv
  | own b off len sz =>
   simp only[noRef,Bool.not_eq_true',beq_eq_false_iff_ne] at hv;simp only[sites,List.mem_cons,not_or];refine⟨λe=>hv e.symm,?_⟩
   split
   ·rename_i z t xs hsl;intro hm;obtain⟨x,hx,hm⟩:=List.mem_flatMap.1 hm;have hb:=hh b _ hsl;simp only[zl] at hb;exact ih x (jp hb (List.mem_of_mem_drop (List.mem_of_mem_take hx))) hm
   ·simp
  | ptr b sz e p =>
   simp only[noRef,Bool.not_eq_true',beq_eq_false_iff_ne] at hv;simp only[sites,List.mem_cons,not_or];refine⟨λe=>hv e.symm,?_⟩
   split
   ·rename_i ob hsl;split
    ·rename_i v hvg;split
     ·rename_i x hx;exact ih x (Qk p hx (zAg hvg (hh b ob hsl)))
     ·simp
    ·simp
   ·simp
  | agg t fs =>
   simp only[noRef] at hv;simp only[sites];intro hm;obtain⟨x,hx,hm⟩:=List.mem_flatMap.1 hm;exact ih x (jp hv hx) hm
  | fn f x y =>
   simp only[noRef,Bool.and_eq_true] at hv;simp only[sites,List.mem_append,not_or];constructor
   ·intro hm;obtain⟨z,hz,hm⟩:=List.mem_flatMap.1 hm;exact ih z (jp hv.1 hz) hm
   ·intro hm;obtain⟨z,hz,hm⟩:=List.mem_flatMap.1 hm;exact ih z (jp hv.2 hz) hm
theorem zBb{hp:List (Option OB)}(hh:∀b ob,slot hp b=some ob->zl s ob.blk=true):∀(vs:List AV),(∀v∈vs,noRef s v=true)->s ∉ jb hp vs
 | [],_=>by simp[jb]
 | v :: vs,h=>by simp only[jb,List.mem_append,not_or];exact⟨sites_noRef hh _ v (h v (by simp)),zBb hh vs λx hx=>h x (by simp[hx])⟩
structure Eff.off(s:Nat)(ef:Eff):Prop where
 v:noRef s ef.v=true
 new:∀b,ef.new=some b->zl s b=true
 upd:∀b k,ef.upd=some (b,k)->b≠s/\zl s k=true
 kil:ef.kil≠some s
 frz:s ∉ ef.frz
theorem zu{v:AV}(h:noRef s v=true):Eff.off s { v }:=⟨h,by simp,by simp,by simp,by simp⟩
theorem evL_mem{tm:List AV}:∀{xs:List Operand} {vs:List AV},evL E tm xs=some vs->∀v∈vs,∃x∈xs,evO E tm x=some v
 | [],vs,h,v,hv=>by simp[evL] at h;subst h;simp at hv
 | x :: xs,vs,h,v,hv=>by
  simp only[evL] at h;obtain⟨y,hy,h⟩:=bind_some h;obtain⟨ys,hys,h⟩:=bind_some h;injection h with h;subst h
  rcases List.mem_cons.1 hv with rfl | hv
  ·exact⟨x,by simp,hy⟩
  ·obtain⟨z,hz,e⟩:=evL_mem hys v hv;exact⟨z,by simp[hz],e⟩
theorem zAP{tm:List AV}:∀{ps:List (Nat×Operand)} {vs:List (Nat×AV)},JO E tm ps=some vs->∀p∈vs,∃q∈ps,evO E tm q.2=some p.2
 | [],vs,h,v,hv=>by simp[JO] at h;subst h;simp at hv
 | (i,x) :: xs,vs,h,v,hv=>by
  simp only[JO] at h;obtain⟨y,hy,h⟩:=bind_some h;obtain⟨ys,hys,h⟩:=bind_some h;injection h with h;subst h
  rcases List.mem_cons.1 hv with rfl | hv
  ·exact⟨(i,x),by simp,hy⟩
  ·obtain⟨z,hz,e⟩:=zAP hys v hv;exact⟨z,by simp[hz],e⟩
theorem zA6{hp:List (Option OB)}(hh:∀b ob,slot hp b=some ob->zl s ob.blk=true){sz:Nat}{v:AV}{el:List DV×List Nat}(h:jg hp sz v=some el):s ∉ el.2:=by
 unfold jg at h;split at h
 ·injection h with h;subst h;simp
 ·split at h
  ·injection h with h;subst h;simp
  ·simp at h
 ·split at h
  ·split at h
   ·split at h
    ·injection h with h;subst h;simp
    ·simp at h
   ·rename_i hsl;split at h
    ·split at h
     ·injection h with h;subst h
      intro hm;obtain⟨x,hx,hm⟩:=List.mem_flatMap.1 hm;have hb:=hh _ _ hsl;simp only[zl] at hb;exact sites_noRef hh _ x (jp hb (List.mem_of_mem_drop (List.mem_of_mem_take hx))) hm
     ·simp at h
    ·simp at h
   ·simp at h
  ·simp at h
 ·simp at h
end
end Go.Am
namespace Go.Am
open Go.Proofs
open Go Go.RowKit
theorem noRef_ne{b s:Nat}{sz e:Nat}{p:List (Nat×Nat)}(h:noRef s (.ptr b sz e p)=true):b≠s:=by simpa[noRef] using h
section
variable{E:Env}{s:Nat}{hp:List (Option OB)}
theorem zAw{v:AV}{blk:Blk}(h:noRef s v=true)(hb:zl s blk=true):Eff.off s { v,new:=some blk } :=
 ⟨h,λb e=>by injection e with e;subst e;exact hb,by simp,by simp,by simp⟩
theorem off_upd{v:AV}{b:Nat}{blk:Blk}(h:noRef s v=true)(hb:b≠s)(hk:zl s blk=true):Eff.off s { v,upd:=some (b,blk) } :=
 ⟨h,by simp,λb' k e=>by injection e with e;injection e with e1 e2;subst e1;subst e2;exact⟨hb,hk⟩,by simp,by simp⟩
theorem off_loadE(hh:∀b ob,slot hp b=some ob->zl s ob.blk=true){t:TypeId}{a:AV}(ha:noRef s a=true){ef:Eff}(h:YQ E t hp a=some ef):Eff.off s ef:=by
 unfold YQ at h;obtain⟨td,_,h⟩:=bind_some h;split at h
 ·obtain⟨_,h⟩:=zJ h;simp[zj] at h;subst h;exact zu rfl
 ·obtain⟨ob,hob,h⟩:=bind_some h;obtain⟨v,hv,h⟩:=bind_some h;obtain⟨x,hx,h⟩:=bind_some h;obtain⟨_,h⟩:=zJ h;simp[zj] at h;subst h;exact zu (Qk _ hx (zAg hv (hh _ ob hob)))
 ·simp at h
theorem off_storeE(hh:∀b ob,slot hp b=some ob->zl s ob.blk=true){t:TypeId}{a x:AV}(ha:noRef s a=true)(hx:noRef s x=true){ef:Eff}(h:Ym E t hp a x=some ef):Eff.off s ef:=by
 unfold Ym at h;obtain⟨td,_,h⟩:=bind_some h;split at h
 ·obtain⟨ob,hob,h⟩:=bind_some h;obtain⟨_,h⟩:=zJ h;obtain⟨_,h⟩:=zJ h;obtain⟨v,hv,h⟩:=bind_some h;obtain⟨y,hy,h⟩:=bind_some h;obtain⟨_,h⟩:=zJ h;obtain⟨blk,hb,h⟩:=bind_some h;injection h with h;subst h
  have hvr:=zAg hv (hh _ ob hob);exact off_upd rfl (noRef_ne ha) (noRefB_set hb (hh _ ob hob) (noRef_setP _ hy hx hvr))
 ·simp at h
theorem off_build{t:TypeId}{ps:List (Nat×AV)}(hp:∀p∈ps,noRef s p.2=true){ef:Eff}(h:Q9 E t ps=some ef):Eff.off s ef:=by
 have key:∀{tag:Nat} {z:DV},QV E tag z ps=some ef->Eff.off s ef:=by
  intro tag z h;unfold QV at h;split at h
  ·split at h
   ·obtain⟨fs,hf,h⟩:=bind_some h;simp[zj] at h;subst h;exact zu (noRef_mkAgg (zBK hf hp (qD _)))
   ·simp at h
  ·simp at h
 unfold Q9 at h;obtain⟨td,_,h⟩:=bind_some h;split at h
 ·exact key h
 ·exact key h
 ·simp at h
theorem off_buildSlice{t:TypeId}{dst n:Nat}(hs:s≠dst){ps:List (Nat×AV)}(hp:∀p∈ps,noRef s p.2=true){ef:Eff}(h:JB E t dst n ps=some ef):Eff.off s ef:=by
 unfold JB at h;obtain⟨td,_,h⟩:=bind_some h;split at h
 case h_2=>simp at h
 obtain⟨ed,_,h⟩:=bind_some h;obtain⟨_,h⟩:=zJ h;obtain⟨vs,hv,h⟩:=bind_some h;split at h
 ·simp[zj] at h;subst h;exact zu rfl
 ·injection h with h;subst h
  exact zAw (by simp[noRef];exact Ne.symm hs) (zBc (zBK hv hp (Yw λv hv=>by rw[List.mem_replicate] at hv;rw[hv.2];rfl)))
theorem off_sliceE{t:TypeId}{x:AV}(hx:noRef s x=true){lo hi mx:Option AV}{ef:Eff}(h:YM E t x lo hi mx=some ef):Eff.off s ef:=by
 unfold YM at h;obtain⟨td,_,h⟩:=bind_some h;obtain⟨l,_,h⟩:=bind_some h;split at h
 ·obtain⟨_,_,h⟩:=bind_some h;obtain⟨_,h⟩:=zJ h;simp[zj] at h;subst h;exact zu rfl
 ·obtain⟨_,_,h⟩:=bind_some h;obtain⟨_,_,h⟩:=bind_some h;obtain⟨_,h⟩:=zJ h;split at h
  ·simp[zj] at h;subst h;exact zu rfl
  ·obtain⟨_,_,h⟩:=bind_some h;obtain⟨_,h⟩:=zJ h;simp[zj] at h;subst h;exact zu rfl
 ·obtain⟨_,_,h⟩:=bind_some h;obtain⟨_,_,h⟩:=bind_some h;obtain⟨_,h⟩:=zJ h;split at h
  ·simp[zj] at h;subst h;exact zu rfl
  ·obtain⟨_,_,h⟩:=bind_some h;obtain⟨_,h⟩:=zJ h;simp[zj] at h;subst h;exact zu rfl
 ·obtain⟨_,_,h⟩:=bind_some h;obtain⟨_,_,h⟩:=bind_some h;obtain⟨_,h⟩:=zJ h;simp[zj] at h;subst h;exact zu (by simpa[noRef] using hx)
 ·simp at h
theorem off_fieldAddr{t:TypeId}{x:AV}(hx:noRef s x=true){i:Nat}{ef:Eff}(h:jq E t x i=some ef):Eff.off s ef:=by
 unfold jq at h;obtain⟨td,_,h⟩:=bind_some h;split at h
 ·split at h
  ·obtain⟨_,h⟩:=zJ h;simp[zj] at h;subst h;exact zu (by simpa[noRef] using hx)
  ·split at h
   ·split at h
    ·simp[zj] at h;subst h;exact zu rfl
    ·simp at h
   ·simp at h
  ·simp at h
 ·simp at h
theorem off_field{t:TypeId}{x:AV}(hx:noRef s x=true){i:Nat}{ef:Eff}(h:zA3 E t x i=some ef):Eff.off s ef:=by
 unfold zA3 at h;obtain⟨td,_,h⟩:=bind_some h;split at h
 ·obtain⟨_,_,h⟩:=bind_some h;obtain⟨_,_,h⟩:=bind_some h;obtain⟨v,hv,h⟩:=bind_some h;obtain⟨_,h⟩:=zJ h;simp[zj] at h;subst h;exact zu (Ql hv hx)
 ·simp at h
theorem off_index{t:TypeId}{x ix:AV}(hx:noRef s x=true){ef:Eff}(h:Yy E t x ix=some ef):Eff.off s ef:=by
 unfold Yy at h;obtain⟨td,_,h⟩:=bind_some h;obtain⟨i,_,h⟩:=bind_some h;obtain⟨_,h⟩:=zJ h;split at h
 ·obtain⟨_,_,h⟩:=bind_some h;obtain⟨v,hv,h⟩:=bind_some h;obtain⟨_,h⟩:=zJ h;simp[zj] at h;subst h;exact zu (Ql hv hx)
 ·split at h
  ·split at h
   ·simp[zj] at h;subst h;exact zu rfl
   ·simp at h
  ·simp at h
 ·simp at h
theorem off_indexAddr{t:TypeId}{x ix:AV}(hx:noRef s x=true){ef:Eff}(h:jd E t x ix=some ef):Eff.off s ef:=by
 unfold jd at h;obtain⟨td,_,h⟩:=bind_some h;obtain⟨i,_,h⟩:=bind_some h;split at h
 ·obtain⟨_,_,h⟩:=bind_some h;split at h
  ·obtain⟨_,h⟩:=zJ h;split at h
   ·simp[zj] at h;subst h;exact zu rfl
   ·simp at h
  ·obtain⟨_,h⟩:=zJ h;simp[zj] at h;subst h;exact zu (by simpa[noRef] using hx)
  ·simp at h
 ·split at h
  ·obtain⟨_,h⟩:=zJ h;simp[zj] at h;subst h;exact zu (by simpa[noRef] using hx)
  ·split at h
   ·obtain⟨_,h⟩:=zJ h;split at h
    ·simp[zj] at h;subst h;exact zu rfl
    ·simp at h
   ·simp at h
  ·simp at h
 ·simp at h
theorem off_lookup{t:TypeId}{m k:AV}{ok:Bool}{ef:Eff}(h:JN E t hp m k ok=some ef):Eff.off s ef:=by
 unfold JN at h;obtain⟨td,_,h⟩:=bind_some h;split at h
 ·obtain⟨_,_,h⟩:=bind_some h;obtain⟨_,_,h⟩:=bind_some h;split at h
  ·obtain⟨_,h⟩:=zJ h;obtain⟨_,_,h⟩:=bind_some h;obtain⟨r,_,h⟩:=bind_some h;split at h <;> (simp[zj] at h;subst h;exact zu rfl)
  ·simp at h
 ·simp at h
theorem zAx{t:TypeId}{m k x:AV}(hm:noRef s m=true){ef:Eff}(h:jP E t hp m k x=some ef):Eff.off s ef:=by
 unfold jP at h;obtain⟨td,_,h⟩:=bind_some h;split at h
 ·obtain⟨_,_,h⟩:=bind_some h;obtain⟨_,_,h⟩:=bind_some h;split at h
  ·obtain⟨_,h⟩:=zJ h;obtain⟨_,h⟩:=zJ h;split at h
   ·obtain⟨_,_,h⟩:=bind_some h;injection h with h;subst h
    exact off_upd rfl (by simpa[noRef] using hm) rfl
   ·simp at h
  ·simp at h
 ·simp at h
theorem off_next{b:Bool}{x:AV}(hx:noRef s x=true){ef:Eff}(h:Q6 hp b x=some ef):Eff.off s ef:=by
 unfold Q6 at h;split at h
 ·obtain⟨_,h⟩:=zJ h;split at h
  ·split at h
   ·injection h with h;subst h
    exact off_upd rfl (by simpa[noRef] using hx) rfl
   ·simp[zj] at h;subst h;exact zu rfl
  ·simp at h
 ·simp at h
theorem off_call(hh:∀b ob,slot hp b=some ob->zl s ob.blk=true){call:FuncId->List DV->Option CR}{dst:Nat}(hs:s≠dst){f:AV}{args:List AV}(hf:noRef s f=true)(ha:∀v∈args,noRef s v=true){ef:Eff}
  (h:qN call dst hp f args=some ef):Eff.off s ef:=by
 unfold qN at h;obtain⟨c,hc,h⟩:=bind_some h;obtain⟨ds,_,h⟩:=bind_some h;obtain⟨r,_,h⟩:=bind_some h;injection h with h;subst h
 have hn:s ∉ jb hp (c.2.1++args++c.2.2):=by
  have hcc:jU s c.2.1=true/\jU s c.2.2=true:=by
   unfold YJ at hc;split at hc
   ·injection hc with hc;subst hc;exact⟨qD _,qD _⟩
   ·injection hc with hc;subst hc;simpa[noRef] using hf
   ·simp at hc
  refine zBb hh _ λv hv=>?_
  rcases List.mem_append.1 hv with hv | hv
  ·rcases List.mem_append.1 hv with hv | hv
   ·exact jp hcc.1 hv
   ·exact ha v hv
  ·exact jp hcc.2 hv
 generalize jb hp (c.2.1++args++c.2.2)=ss at hn;cases r with
 | val x =>
  refine⟨rfl,by simp[deliver],by simp[deliver],by simp[deliver],?_⟩
  simp only[deliver];cases ss with
  | nil=>simp
  | cons b ss=>cases Yi x <;> simp_all
 | fresh sz xs =>
  refine⟨by simp[deliver,noRef];exact Ne.symm hs,λb e=>?_,by simp[deliver],by simp[deliver],hn⟩
  simp only[deliver,Option.some.injEq] at e;subst e;rfl
theorem off_append(hh:∀b ob,slot hp b=some ob->zl s ob.blk=true){ts:List TypeId}{dst:Nat}(hs:s≠dst){args:List AV}(ha:∀v∈args,noRef s v=true){ef:Eff}(h:JQ E ts dst hp args=some ef):Eff.off s ef:=by
 unfold JQ at h;split at h
 case h_2=>simp at h
 rename_i x y;split at h
 case h_2=>simp at h
 obtain⟨_,h⟩:=zJ h;obtain⟨td,_,h⟩:=bind_some h;split at h
 case h_2=>simp at h
 obtain⟨ed,_,h⟩:=bind_some h;obtain⟨bs,hbs,h⟩:=bind_some h;obtain⟨el,hel,h⟩:=bind_some h;obtain⟨_,h⟩:=zJ h;have hx:=ha x (by simp)
 have hb:bs.2≠some s:=by
  unfold YC at hbs;split at hbs
  ·injection hbs with hbs;subst hbs;simp
  ·split at hbs
   ·split at hbs
    ·split at hbs
     ·injection hbs with hbs;subst hbs
      simp only[noRef,Bool.not_eq_true',beq_eq_false_iff_ne] at hx;simpa using hx
     ·simp at hbs
    ·simp at hbs
   ·simp at hbs
  ·simp at hbs
 split at h
 ·simp[zj] at h;subst h;exact zu rfl
 ·injection h with h;subst h
  exact⟨by simp[noRef];exact Ne.symm hs,λb e=>by injection e with e;subst e;rfl,by simp,hb,zA6 hh hel⟩
theorem off_copy(hh:∀b ob,slot hp b=some ob->zl s ob.blk=true){ts:List TypeId}{args:List AV}(ha:∀v∈args,noRef s v=true){ef:Eff}(h:zAk E ts hp args=some ef):Eff.off s ef:=by
 unfold zAk at h;split at h
 case h_2=>simp at h
 rename_i x y;split at h
 case h_2=>simp at h
 obtain⟨td,_,h⟩:=bind_some h;split at h
 case h_2=>simp at h
 obtain⟨ed,_,h⟩:=bind_some h;have hx:=ha x (by simp)
 split at h
 case h_2=>simp at h
 obtain⟨_,h⟩:=zJ h;split at h
 case h_2=>simp at h
 obtain⟨_,h⟩:=zJ h;obtain⟨el,hel,h⟩:=bind_some h;injection h with h;subst h
 exact⟨rfl,by simp,λb k e=>by injection e with e;injection e with e1 e2;subst e1;subst e2;exact⟨by simpa[noRef] using hx,rfl⟩,by simp,zA6 hh hel⟩
theorem off_len{ts:List TypeId}{args:List AV}{ef:Eff}(h:lenE E ts hp args=some ef):Eff.off s ef:=by
 unfold lenE at h;split at h
 case h_2=>simp at h
 split at h
 case h_2=>simp at h
 obtain⟨td,_,h⟩:=bind_some h;split at h
 all_goals first
  | (simp[zj] at h;subst h;exact zu rfl)
  | (obtain⟨_,_,h⟩:=bind_some h;simp[zj] at h;subst h;exact zu rfl)
  | (simp at h)
theorem off_max{args:List AV}{ef:Eff}(h:maxE args=some ef):Eff.off s ef:=by
 unfold maxE at h;split at h
 ·obtain⟨_,_,h⟩:=bind_some h;simp[zj] at h;subst h;exact zu rfl
 ·simp at h
theorem off_min{args:List AV}{ef:Eff}(h:minE args=some ef):Eff.off s ef:=by
 unfold minE at h;split at h
 ·obtain⟨_,_,h⟩:=bind_some h;simp[zj] at h;subst h;exact zu rfl
 ·simp at h
theorem eff_off{call:FuncId->List DV->Option CR}{op:Op}{dst:Nat}{tm:List AV}{ef:Eff}(h:effE E call op dst tm hp=some ef)(hs:s≠dst)(ho:∀x∈op.operands,∀v,evO E tm x=some v->noRef s v=true)
  (hh:∀b ob,slot hp b=some ob->zl s ob.blk=true):Eff.off s ef:=by
 cases op <;> simp only[effE] at h <;> try (simp at h;done)
 case move x =>
  obtain⟨v,hv,h⟩:=bind_some h;simp[zj] at h;subst h;exact zu (ho x (by simp[Op.operands]) v hv)
 case assign x =>
  obtain⟨v,hv,h⟩:=bind_some h;simp[zj] at h;subst h;exact zu (ho x (by simp[Op.operands]) v hv)
 case pick c x y =>
  obtain⟨v,_,h⟩:=bind_some h;obtain⟨b,_,h⟩:=bind_some h;obtain⟨u,hu,h⟩:=bind_some h;simp[zj] at h;subst h;cases b
  ·exact zu (ho y (by simp[Op.operands]) u hu)
  ·exact zu (ho x (by simp[Op.operands]) u hu)
 case alloc t =>
  obtain⟨td,_,h⟩:=bind_some h;obtain⟨_,h⟩:=zJ h;injection h with h;subst h
  exact zAw (by simp[noRef];exact Ne.symm hs) rfl
 case box t x =>
  obtain⟨v,hv,h⟩:=bind_some h;obtain⟨td,_,h⟩:=bind_some h;obtain⟨_,h⟩:=zJ h;injection h with h;subst h
  exact zAw (by simp[noRef];exact Ne.symm hs) (zBc (by simp[jU,ho x (by simp[Op.operands]) v hv]))
 case build t ps =>
  obtain⟨vs,hv,h⟩:=bind_some h;refine off_build (λp hp=>?_) h
  obtain⟨q,hq,e⟩:=zAP hv p hp;exact ho q.2 (by simp only[Op.operands];simp;exact⟨q.1,by simpa using hq⟩) _ e
 case buildSlice t n ps =>
  obtain⟨vs,hv,h⟩:=bind_some h;refine off_buildSlice hs (λp hp=>?_) h
  obtain⟨q,hq,e⟩:=zAP hv p hp;exact ho q.2 (by simp only[Op.operands];simp;exact⟨q.1,by simpa using hq⟩) _ e
 case load t x =>
  obtain⟨v,hv,h⟩:=bind_some h;exact off_loadE hh (ho x (by simp[Op.operands]) v hv) h
 case store t x y =>
  obtain⟨v,hv,h⟩:=bind_some h;obtain⟨u,hu,h⟩:=bind_some h;exact off_storeE hh (ho x (by simp[Op.operands]) v hv) (ho y (by simp[Op.operands]) u hu) h
 case nilCheck x =>
  obtain⟨v,hv,h⟩:=bind_some h;have hn:=ho x (by simp[Op.operands]) v hv
  unfold YW at h;split at h <;> try (simp at h;done)
  simp[zj] at h;subst h;exact zu hn
 case binOp op t x y c =>
  obtain⟨v,hv,h⟩:=bind_some h;obtain⟨u,hu,h⟩:=bind_some h;split at h
  ·obtain⟨_,h⟩:=zJ h;obtain⟨_,_,h⟩:=bind_some h;simp[zj] at h;subst h;exact zu rfl
  ·simp at h
 case unOp op t x =>
  obtain⟨v,hv,h⟩:=bind_some h;split at h
  ·obtain⟨_,_,h⟩:=bind_some h;simp[zj] at h;subst h;exact zu rfl
  ·simp at h
 case convert t1 t2 x =>
  obtain⟨v,hv,h⟩:=bind_some h;split at h
  ·obtain⟨_,_,h⟩:=bind_some h;simp[zj] at h;subst h;exact zu rfl
  ·simp at h
 case makeFunc fn fs cs =>
  cases fn <;> try (simp[effE] at h;done)
  simp only[effE] at h;obtain⟨x,hx,h⟩:=bind_some h;obtain⟨y,hy,h⟩:=bind_some h;obtain⟨_,h⟩:=zJ h;simp[zj] at h;subst h;refine zu (noRef_mkFn (Yw λv hv=>?_) (Yw λv hv=>?_))
  ·obtain⟨z,hz,e⟩:=evL_mem hx v hv;exact ho z (by simp[Op.operands];exact .inl (by simpa using hz)) v e
  ·obtain⟨z,hz,e⟩:=evL_mem hy v hv;exact ho z (by simp[Op.operands];exact .inr (by simpa using hz)) v e
 case makeMap t r =>
  cases r with
  | some r=>simp at h
  | none =>
   simp only at h;obtain⟨td,_,h⟩:=bind_some h;split at h
   ·injection h with h;subst h
    exact zAw (by simp[noRef];exact Ne.symm hs) rfl
   ·simp at h
 case makeSlice t x y =>
  obtain⟨v,hv,h⟩:=bind_some h;obtain⟨u,hu,h⟩:=bind_some h;unfold Jg at h;obtain⟨td,_,h⟩:=bind_some h;split at h
  ·obtain⟨_,_,h⟩:=bind_some h;obtain⟨_,_,h⟩:=bind_some h;obtain⟨_,_,h⟩:=bind_some h;obtain⟨_,h⟩:=zJ h;injection h with h;subst h
   exact zAw (by simp[noRef];exact Ne.symm hs) rfl
  ·simp at h
 case slice t x lo hi mx =>
  obtain⟨v,hv,h⟩:=bind_some h;obtain⟨_,_,h⟩:=bind_some h;obtain⟨_,_,h⟩:=bind_some h;obtain⟨_,_,h⟩:=bind_some h;exact off_sliceE (ho x (by simp[Op.operands]) v hv) h
 case fieldAddr t x i =>
  obtain⟨v,hv,h⟩:=bind_some h;exact off_fieldAddr (ho x (by simp[Op.operands]) v hv) h
 case field t x i =>
  obtain⟨v,hv,h⟩:=bind_some h;exact off_field (ho x (by simp[Op.operands]) v hv) h
 case indexAddr t x i =>
  obtain⟨v,hv,h⟩:=bind_some h;obtain⟨_,_,h⟩:=bind_some h;exact off_indexAddr (ho x (by simp[Op.operands]) v hv) h
 case index t x i =>
  obtain⟨v,hv,h⟩:=bind_some h;obtain⟨_,_,h⟩:=bind_some h;exact off_index (ho x (by simp[Op.operands]) v hv) h
 case lookup t m k ok =>
  obtain⟨_,_,h⟩:=bind_some h;obtain⟨_,_,h⟩:=bind_some h;exact off_lookup h
 case mapUpdate t m k x =>
  obtain⟨v,hv,h⟩:=bind_some h;obtain⟨_,_,h⟩:=bind_some h;obtain⟨_,_,h⟩:=bind_some h;exact zAx (ho m (by simp[Op.operands]) v hv) h
 case insert t m k x =>
  obtain⟨v,hv,h⟩:=bind_some h;obtain⟨_,_,h⟩:=bind_some h;obtain⟨_,_,h⟩:=bind_some h;exact zAx (ho m (by simp[Op.operands]) v hv) h
 case range t x =>
  obtain⟨td,_,h⟩:=bind_some h;split at h
  ·obtain⟨v,hv,h⟩:=bind_some h;unfold rangeE at h;split at h
   ·injection h with h;subst h
    exact zAw (by simp[noRef];exact Ne.symm hs) rfl
   ·simp at h
  ·simp at h
 case next x b =>
  obtain⟨v,hv,h⟩:=bind_some h;exact off_next (ho x (by simp[Op.operands]) v hv) h
 case extract x i =>
  obtain⟨v,hv,h⟩:=bind_some h;unfold QS at h;split at h
  ·split at h
   ·simp[zj] at h;subst h;exact zu rfl
   ·simp at h
  ·simp at h
 case call c =>
  obtain⟨vs,hv,h⟩:=bind_some h;have ha:∀v∈vs,noRef s v=true:=λv hm=>by obtain⟨z,hz,e⟩:=evL_mem hv v hm;exact ho z (by simp only[Op.operands,Call.operands];simp;exact .inr (by simpa using hz)) v e
  cases hc:c.callee with
  | invoke r m=>rw[hc] at h;simp at h
  | value f =>
   rw[hc] at h;simp only at h;obtain⟨vf,hvf,h⟩:=bind_some h;exact off_call hh hs (ho f (by simp only[Op.operands,Call.operands,hc];simp) vf hvf) ha h
  | builtin b =>
   rw[hc] at h;cases b <;> try (simp at h;done)
   ·exact off_append hh hs ha h
   ·exact off_copy hh ha h
   ·exact off_len h
   ·exact off_max h
   ·exact off_min h
end
end Go.Am
namespace Go.Am
open Go.Proofs
open Go Go.RowKit
section
variable{E:Env}{X:Nat->Prop}{hp hp':List (Option OB)}
def nrX(X:Nat->Prop)(v:AV):Prop:=∀s,X s->noRef s v=true
structure HSim(X:Nat->Prop)(hp hp':List (Option OB)):Prop where
 blk:∀b,¬X b->(slot hp b).map OB.blk=(slot hp' b).map OB.blk
 ref:∀b ob,¬X b->slot hp b=some ob->∀s,X s->zl s ob.blk=true
theorem HSim.some(h:HSim X hp hp'){b:Nat}(hb:¬X b){ob:OB}(hs:slot hp b=some ob):∃z,slot hp' b=some ⟨z,ob.blk⟩:=by
 have:=h.blk b hb;rw[hs] at this;cases h':slot hp' b with
 | none=>rw[h'] at this;simp at this
 | some ob' =>
  rw[h'] at this;obtain⟨z,blk⟩:=ob';simp only[Option.map_some,Option.some.injEq] at this;exact⟨z,by rw[this]⟩
theorem HSim.none(h:HSim X hp hp'){b:Nat}(hb:¬X b)(hs:slot hp b=none):slot hp' b=none:=by
 have:=h.blk b hb;rw[hs] at this;cases h':slot hp' b with
 | none=>rfl
 | some ob'=>rw[h'] at this;simp at this
theorem nrX.own{b off len sz:Nat}(h:nrX X (.own b off len sz)):¬X b:=λhb=>by have:=h b hb;simp[noRef] at this
theorem nrX.ptr{b sz e:Nat}{p:List (Nat×Nat)}(h:nrX X (.ptr b sz e p)):¬X b:=λhb=>by have:=h b hb;simp[noRef] at this
theorem nrX.omp{b:Nat}(h:nrX X (.omp b)):¬X b:=λhb=>by have:=h b hb;simp[noRef] at this
theorem nrX.it{b:Nat}(h:nrX X (.it b)):¬X b:=λhb=>by have:=h b hb;simp[noRef] at this
theorem nrX.mem{l:List AV}(h:∀s,X s->jU s l=true){v:AV}(hv:v∈l):nrX X v:=λs hs=>jp (h s hs) hv
theorem YP{α β:Type}{f g:α->Option β}:∀{l:List α},(∀x∈l,f x=g x)->mapO f l=mapO g l
 | [],_=>rfl
 | x :: l,h=>by simp only[mapO,h x (by simp),YP (l:=l) λy hy=>h y (by simp[hy])]
theorem jK{α β:Type}{f g:α->List β}:∀{l:List α},(∀x∈l,f x=g x)->l.flatMap f=l.flatMap g
 | [],_=>rfl
 | x :: l,h=>by simp only[List.flatMap_cons,h x (by simp),jK (l:=l) λy hy=>h y (by simp[hy])]
theorem snap_sim(h:HSim X hp hp'):∀(n:Nat) (v:AV),nrX X v->snap hp n v=snap hp' n v/\sites hp n v=sites hp' n v:=by
 intro n;induction n with
 | zero =>
  intro v hv;cases v with
  | omp b =>
   refine⟨?_,rfl⟩;simp only[snap];cases hb:slot hp b with
   | none=>rw[h.none hv.omp hb]
   | some ob=>obtain⟨z,hz⟩:=h.some hv.omp hb;rw[hz];cases ob;rename_i z' blk;cases blk <;> rfl
  | _=>exact⟨rfl,rfl⟩
 | succ n ih =>
  intro v hv;cases v with
  | d x=>exact⟨rfl,rfl⟩
  | undef=>exact⟨rfl,rfl⟩
  | it b=>exact⟨rfl,rfl⟩
  | omp b =>
   refine⟨?_,rfl⟩;simp only[snap];cases hb:slot hp b with
   | none=>rw[h.none hv.omp hb]
   | some ob=>obtain⟨z,hz⟩:=h.some hv.omp hb;rw[hz];cases ob;rename_i z' blk;cases blk <;> rfl
  | own b off len sz =>
   cases hb:slot hp b with
   | none=>simp only[snap,sites,hb,h.none hv.own hb,and_self]
   | some ob =>
    obtain⟨z,hz⟩:=h.some hv.own hb;have hr:=h.ref b ob hv.own hb;obtain⟨z0,blk⟩:=ob;cases blk with
    | ac t xs =>
     have hx:∀x∈(xs.drop off).take len,nrX X x:=λx hx=>nrX.mem (λs hs=>by have:=hr s hs;simpa[zl] using this) (List.mem_of_mem_drop (List.mem_of_mem_take hx))
     simp only[snap,sites,hb,hz,YP λx hm=>(ih x (hx x hm)).1,jK λx hm=>(ih x (hx x hm)).2,and_self]
    | dc t xs=>simp only[snap,sites,hb,hz,and_self]
    | mp ks vs=>simp only[snap,sites,hb,hz,and_self]
    | sit t p=>simp only[snap,sites,hb,hz,and_self]
  | ptr b sz e p =>
   cases hb:slot hp b with
   | none=>simp only[snap,sites,hb,h.none hv.ptr hb,and_self]
   | some ob =>
    obtain⟨z,hz⟩:=h.some hv.ptr hb;have hr:=h.ref b ob hv.ptr hb;simp only[snap,sites,hb,hz];cases hg:ob.blk.get sz e with
    | none=>exact⟨rfl,rfl⟩
    | some y =>
     simp only;cases hp:getP p y with
     | none=>exact⟨rfl,rfl⟩
     | some x =>
      have:=ih x λs hs=>Qk p hp (zAg hg (hr s hs))
      simp only[this.1,this.2,and_self]
  | agg t fs =>
   have hx:∀x∈fs,nrX X x:=λx hx=>nrX.mem (λs hs=>by have:=hv s hs;simpa[noRef] using this) hx
   simp only[snap,sites,YP λx hm=>(ih x (hx x hm)).1,jK λx hm=>(ih x (hx x hm)).2,and_self]
  | fn f a c =>
   have hx:∀x∈a,nrX X x:=λx hx=>nrX.mem (λs hs=>by have:=hv s hs;simp only[noRef,Bool.and_eq_true] at this;exact this.1) hx
   have hy:∀x∈c,nrX X x:=λx hx=>nrX.mem (λs hs=>by have:=hv s hs;simp only[noRef,Bool.and_eq_true] at this;exact this.2) hx
   simp only[snap,sites,YP λx hm=>(ih x (hx x hm)).1,jK λx hm=>(ih x (hx x hm)).2,YP λx hm=>(ih x (hy x hm)).1,jK λx hm=>(ih x (hy x hm)).2,and_self]
theorem snapL_sim(h:HSim X hp hp'):∀(vs:List AV),(∀v∈vs,nrX X v)->JY hp vs=JY hp' vs/\jb hp vs=jb hp' vs
 | [],_=>⟨rfl,rfl⟩
 | v :: vs,hv=>by
  have h1:=snap_sim h zx v (hv v (by simp))
  have h2:=snapL_sim h vs λx hx=>hv x (by simp[hx])
  simp only[JY,jb,h1.1,h1.2,h2.1,h2.2,and_self]
theorem elemsOf_sim(h:HSim X hp hp'){sz:Nat}{v:AV}(hv:nrX X v):jg hp sz v=jg hp' sz v:=by
 cases v with
 | own b off len s =>
  simp only[jg];cases hb:slot hp b with
  | none=>rw[h.none hv.own hb]
  | some ob =>
   obtain⟨z,hz⟩:=h.some hv.own hb;have hr:=h.ref b ob hv.own hb;obtain⟨z0,blk⟩:=ob;rw[hz];cases blk with
   | ac t xs =>
    have hx:∀x∈(xs.drop off).take len,nrX X x:=λx hx=>nrX.mem (λs hs=>by have:=hr s hs;simpa[zl] using this) (List.mem_of_mem_drop (List.mem_of_mem_take hx))
    simp only[YP λx hm=>(snap_sim h zx x (hx x hm)).1,jK λx hm=>(snap_sim h zx x (hx x hm)).2]
   | _=>rfl
 | d x=>cases x <;> rfl
 | _=>rfl
theorem mapOf_sim(h:HSim X hp hp'){v:AV}(hv:nrX X v):Qn hp v=Qn hp' v:=by
 cases v with
 | omp b =>
  simp only[Qn];cases hb:slot hp b with
  | none=>rw[h.none hv.omp hb]
  | some ob=>obtain⟨z,hz⟩:=h.some hv.omp hb;rw[hz];cases ob;rename_i z' blk;cases blk <;> rfl
 | d x=>cases x <;> rfl
 | _=>rfl
theorem loadE_sim(h:HSim X hp hp'){t:TypeId}{v:AV}(hv:nrX X v):YQ E t hp v=YQ E t hp' v:=by
 cases v with
 | ptr b sz e p =>
  simp only[YQ];cases hb:slot hp b with
  | none=>rw[h.none hv.ptr hb]
  | some ob=>obtain⟨z,hz⟩:=h.some hv.ptr hb;rw[hz];rfl
 | d x=>cases x <;> rfl
 | _=>rfl
theorem callE_sim(h:HSim X hp hp'){call:FuncId->List DV->Option CR}{dst:Nat}{f:AV}{args:List AV}(hf:nrX X f)(ha:∀v∈args,nrX X v):qN call dst hp f args=qN call dst hp' f args:=by
 unfold qN;cases hc:YJ f with
 | none=>rfl
 | some c =>
  have hcc:∀v∈c.2.1++args++c.2.2,nrX X v:=by
   have h12:∀s,X s->jU s c.2.1=true/\jU s c.2.2=true:=by
    intro s hs;unfold YJ at hc;split at hc
    ·injection hc with hc;subst hc;exact⟨qD _,qD _⟩
    ·injection hc with hc;subst hc;have:=hf s hs;simpa[noRef] using this
    ·simp at hc
   intro v hv;rcases List.mem_append.1 hv with hv | hv
   ·rcases List.mem_append.1 hv with hv | hv
    ·exact nrX.mem (λs hs=>(h12 s hs).1) hv
    ·exact ha v hv
   ·exact nrX.mem (λs hs=>(h12 s hs).2) hv
  obtain⟨h1,h2⟩:=snapL_sim h _ hcc;simp only[zN,h1,h2]
def jx:Op->Bool
 | .store _ _ _ | .mapUpdate _ _ _ _ | .insert _ _ _ _ | .next _ _=>true
 | .call c=>match c.callee with | .builtin .copy=>true | _=>false
 | _=>false
theorem zAj{tm tm':List AV}:∀{xs:List Operand},(∀x∈xs,evO E tm x=evO E tm' x)->evL E tm xs=evL E tm' xs
 | [],_=>rfl
 | x :: xs,h=>by simp only[evL,h x (by simp),zAj (xs:=xs) λy hy=>h y (by simp[hy])]
theorem qW{tm tm':List AV}:∀{ps:List (Nat×Operand)},(∀p∈ps,evO E tm p.2=evO E tm' p.2)->JO E tm ps=JO E tm' ps
 | [],_=>rfl
 | (i,x) :: ps,h=>by simp only[JO,h (i,x) (by simp),qW (ps:=ps) λy hy=>h y (by simp[hy])]
theorem zAR{tm tm':List AV}{o:Option Operand}(h:∀x,o=some x->evO E tm x=evO E tm' x):qp E tm o=qp E tm' o:=by
 cases o with
 | none=>rfl
 | some x=>simp only[qp,h x rfl]
theorem effE_tm{call:FuncId->List DV->Option CR}{op:Op}{dst:Nat}{tm tm':List AV}(h:∀x∈op.operands,evO E tm x=evO E tm' x):effE E call op dst tm hp=effE E call op dst tm' hp:=by
 cases op <;> simp only[effE]
 case move x=>rw[h x (by simp[Op.operands])]
 case assign x=>rw[h x (by simp[Op.operands])]
 case pick c x y =>
  rw[h c (by simp[Op.operands])]
  congr 1;funext v;congr 1;funext b;cases b
  ·rw[h y (by simp[Op.operands])]
  ·rw[h x (by simp[Op.operands])]
 case box t x=>rw[h x (by simp[Op.operands])]
 case build t ps=>rw[qW λp hp=>h p.2 (by simp only[Op.operands];simp;exact⟨p.1,by simpa using hp⟩)]
 case buildSlice t n ps=>rw[qW λp hp=>h p.2 (by simp only[Op.operands];simp;exact⟨p.1,by simpa using hp⟩)]
 case load t x=>rw[h x (by simp[Op.operands])]
 case store t x y=>rw[h x (by simp[Op.operands]),h y (by simp[Op.operands])]
 case nilCheck x=>rw[h x (by simp[Op.operands])]
 case binOp op t x y c=>rw[h x (by simp[Op.operands]),h y (by simp[Op.operands])]
 case unOp op t x=>rw[h x (by simp[Op.operands])]
 case convert t1 t2 x=>rw[h x (by simp[Op.operands])]
 case makeFunc fn fs cs =>
  cases fn <;> simp only[effE]
  rw[zAj (xs:=fs.toList) λx hx=>h x (by simp[Op.operands];exact .inl (by simpa using hx)),zAj (xs:=cs.toList) λx hx=>h x (by simp[Op.operands];exact .inr (by simpa using hx))]
 case makeSlice t x y=>rw[h x (by simp[Op.operands]),h y (by simp[Op.operands])]
 case slice t x lo hi mx =>
  rw[h x (by simp[Op.operands]),zAR (o:=lo) λy hy=>h y (by simp[Op.operands,hy]),zAR (o:=hi) λy hy=>h y (by simp[Op.operands,hy]),zAR (o:=mx) λy hy=>h y (by simp[Op.operands,hy])]
 case fieldAddr t x i=>rw[h x (by simp[Op.operands])]
 case field t x i=>rw[h x (by simp[Op.operands])]
 case indexAddr t x i=>rw[h x (by simp[Op.operands]),h i (by simp[Op.operands])]
 case index t x i=>rw[h x (by simp[Op.operands]),h i (by simp[Op.operands])]
 case lookup t m k ok=>rw[h m (by simp[Op.operands]),h k (by simp[Op.operands])]
 case mapUpdate t m k x=>rw[h m (by simp[Op.operands]),h k (by simp[Op.operands]),h x (by simp[Op.operands])]
 case insert t m k x=>rw[h m (by simp[Op.operands]),h k (by simp[Op.operands]),h x (by simp[Op.operands])]
 case range t x=>rw[h x (by simp[Op.operands])]
 case next x b=>rw[h x (by simp[Op.operands])]
 case extract x i=>rw[h x (by simp[Op.operands])]
 case call c =>
  rw[zAj (xs:=c.args.toList) λx hx=>h x (by simp only[Op.operands,Call.operands];simp;exact .inr (by simpa using hx))]
  congr 1;funext args;cases hc:c.callee with
  | value f=>simp only[h f (by simp only[Op.operands,Call.operands,hc];simp)]
  | invoke r m=>rfl
  | builtin b=>cases b <;> rfl
theorem jf{α β:Type}{o:Option α}{f g:α->Option β}(h:∀x,o=some x->f x=g x):bnd o f=bnd o g:=by
 cases o with
 | none=>rfl
 | some x=>exact h x rfl
theorem effE_hp{call:FuncId->List DV->Option CR}{op:Op}{dst:Nat}{tm:List AV}(h:HSim X hp hp')(ho:∀x∈op.operands,∀v,evO E tm x=some v->nrX X v)
  (hW:jx op=true->∀b,¬X b->slot hp b=slot hp' b)
  (hB:∀c x,op=.call c->c.callee=.builtin .append->c.args.toList.head? = some x->∀b off len sz,evO E tm x=some (.own b off len sz)->slot hp b=slot hp' b) :
  effE E call op dst tm hp=effE E call op dst tm hp':=by
 cases op <;> simp only[effE]
 case makeFunc fn fs cs=>cases fn <;> rfl
 case load t x=>exact jf λv hv=>loadE_sim h (ho x (by simp[Op.operands]) v hv)
 case store t x y =>
  refine jf λv hv=>jf λu hu=>?_
  have hn:=ho x (by simp[Op.operands]) v hv
  cases v with
  | ptr b sz e p=>simp only[Ym,hW rfl b hn.ptr]
  | _=>rfl
 case lookup t m k ok =>
  refine jf λv hv=>jf λu hu=>?_
  simp only[JN,mapOf_sim h (ho m (by simp[Op.operands]) v hv)]
 case mapUpdate t m k x =>
  refine jf λv hv=>jf λu hu=>jf λy hy=>?_
  have hn:=ho m (by simp[Op.operands]) v hv
  cases v with
  | omp b =>
   cases u with
   | d k =>
    cases y with
    | d v=>simp only[jP,hW rfl b hn.omp]
    | _=>rfl
   | _=>rfl
  | _=>rfl
 case insert t m k x =>
  refine jf λv hv=>jf λu hu=>jf λy hy=>?_
  have hn:=ho m (by simp[Op.operands]) v hv
  cases v with
  | omp b =>
   cases u with
   | d k =>
    cases y with
    | d v=>simp only[jP,hW rfl b hn.omp]
    | _=>rfl
   | _=>rfl
  | _=>rfl
 case next x b =>
  refine jf λv hv=>?_
  have hn:=ho x (by simp[Op.operands]) v hv
  cases v with
  | it b=>simp only[Q6,hW rfl b hn.it]
  | _=>rfl
 case call c =>
  refine jf λargs hargs=>?_
  have ha:∀v∈args,nrX X v:=λv hm=>by obtain⟨z,hz,e⟩:=evL_mem hargs v hm;exact ho z (by simp only[Op.operands,Call.operands];simp;exact .inr (by simpa using hz)) v e
  cases hc:c.callee with
  | invoke r m=>rfl
  | value f =>
   simp only;refine jf λvf hvf=>callE_sim h (ho f (by simp only[Op.operands,Call.operands,hc];simp) vf hvf) ha
  | builtin b =>
   cases b <;> try rfl
   ·
    simp only;unfold JQ
    match args,ha,hargs with
    | [s,x],ha,hargs =>
     simp only;have hel:∀sz,jg hp sz x=jg hp' sz x:=λsz=>elemsOf_sim h (ha x (by simp))
     have hbs:∀sz,YC hp sz s=YC hp' sz s:=λsz=>by
      cases s with
      | own b off len s' =>
       obtain⟨y,ys,hy⟩:∃y ys,c.args.toList=y :: ys:=by
        cases hl:c.args.toList with
        | nil=>rw[hl] at hargs;simp[evL] at hargs
        | cons y ys=>exact⟨y,ys,rfl⟩
       have hev:evO E tm y=some (.own b off len s'):=by
        rw[hy] at hargs;simp only[evL] at hargs;obtain⟨v,hv,hargs⟩:=bind_some hargs;obtain⟨vs,_,hargs⟩:=bind_some hargs;injection hargs with hargs
        injection hargs with e1 e2;rw[hv,e1]
       simp only[YC,hB c y rfl hc (by rw[hy];rfl) b off len s' hev]
      | d y=>cases y <;> rfl
      | _=>rfl
     simp only[hel,hbs]
    | [],_,_=>rfl
    | [_],_,_=>rfl
    | _ :: _ :: _ :: _,_,_=>rfl
   ·
    simp only;unfold zAk
    match args,ha with
    | [s,x],ha =>
     simp only;have hel:∀sz,jg hp sz x=jg hp' sz x:=λsz=>elemsOf_sim h (ha x (by simp))
     cases s with
     | own b off len sz=>simp only[hel,hW (by simp[jx,hc]) b (ha (.own b off len sz) (by simp)).own]
     | _=>rfl
    | [],_=>rfl
    | [_],_=>rfl
    | _ :: _ :: _ :: _,_=>rfl
   ·
    simp only;unfold lenE
    match args,ha with
    | [x],ha =>
     have hm:=mapOf_sim h (ha x (by simp))
     simp only;generalize c.argTypes.toList=ts
     match ts with
     | [t] =>
      refine jf λtd _=>?_
      cases td.k <;> cases x <;> first | rfl | (simp only[hm];done) | (rename_i y;cases y <;> first | rfl | (simp only[hm];done))
     | []=>rfl
     | _ :: _ :: _=>rfl
    | [],_=>rfl
    | _ :: _ :: _,_=>rfl
end
end Go.Am
namespace Go.Am
open Go.Proofs
open Go Go.RowKit
def fzO(o:Option OB):Option OB:=o.map λob=>{ ob with fz:=true }
def F1(ef:Eff)(b:Nat)(o:Option OB):Option OB:=if b∈ef.frz then fzO o else o
def F2(ef:Eff)(b:Nat)(o:Option OB):Option OB:=match ef.upd with | some (u,blk)=>if b=u then o.map λob=>{ ob with blk } else o | none=>o
def F3(ef:Eff)(b:Nat)(o:Option OB):Option OB:=if ef.kil=some b then none else o
def F4(ef:Eff)(s b:Nat)(o:Option OB):Option OB:=match ef.new with | some blk=>if b=s then some ⟨false,blk⟩ else o | none=>o
def FF(ef:Eff)(s b:Nat)(o:Option OB):Option OB:=F4 ef s b (F3 ef b (F2 ef b (F1 ef b o)))
theorem fzO_idem(o:Option OB):fzO (fzO o)=fzO o:=by cases o <;> rfl
theorem JM(hp:List (Option OB))(b:Nat):slot hp b=(hp[b]?).join:=by
 unfold slot;cases hp[b]? with
 | none=>rfl
 | some o=>cases o <;> rfl
theorem get_freeze1(hp:List (Option OB))(c b:Nat):(freeze1 hp c)[b]? = (hp[b]?).map λo=>if b=c then fzO o else o:=by
 unfold freeze1;cases hs:slot hp c with
 | none =>
  simp only;cases hb:hp[b]? with
  | none=>rfl
  | some o =>
   simp only[Option.map_some];by_cases e:b=c
   ·subst e;rw[JM,hb] at hs;simp only[Option.join_some] at hs;subst hs;simp[fzO]
   ·simp[e]
 | some ob =>
  simp only;by_cases e:b=c
  ·subst e;rw[JM] at hs;cases hb:hp[b]? with
   | none=>rw[hb] at hs;simp at hs
   | some o =>
    rw[hb] at hs;simp only[Option.join_some] at hs;subst hs;have hlt:b<hp.length:=(List.getElem?_eq_some_iff.1 hb).1;rw[List.getElem?_set_self hlt];simp[fzO]
  ·rw[List.getElem?_set_ne (Ne.symm e)];cases hp[b]? <;> simp[e]
theorem get_freezeL:∀(ss:List Nat) (hp:List (Option OB)) (b:Nat),(freezeL hp ss)[b]? = (hp[b]?).map λo=>if b∈ss then fzO o else o
 | [],hp,b=>by simp[freezeL]
 | c :: ss,hp,b=>by
  simp only[freezeL];rw[get_freezeL ss,get_freeze1,Option.map_map];congr 1;funext o;simp only[Function.comp];by_cases e:b=c
  ·subst e;simp only[if_true,List.mem_cons,true_or];by_cases h:b∈ss
   ·simp[h,fzO_idem]
   ·simp[h]
  ·simp[e]
theorem J1(ef:Eff)(dst:Option Tmp)(s:Nat)(st:St)(b:Nat):(zo ef dst s st).hp[b]? = (st.hp[b]?).map (FF ef s b):=by
 have h2:∀(hp:List (Option OB)),(updB hp ef.upd)[b]? = (hp[b]?).map (F2 ef b):=by
  intro hp;unfold updB F2;cases hu:ef.upd with
  | none=>simp
  | some p =>
   obtain⟨u,blk⟩:=p;simp only;cases hs:slot hp u with
   | none =>
    simp only;cases hb:hp[b]? with
    | none=>rfl
    | some o =>
     by_cases e:b=u
     ·subst e;rw[JM,hb] at hs;simp only[Option.join_some] at hs;subst hs;simp
     ·simp[e]
   | some ob =>
    simp only;by_cases e:b=u
    ·subst e;rw[JM] at hs;cases hb:hp[b]? with
     | none=>rw[hb] at hs;simp at hs
     | some o =>
      rw[hb] at hs;simp only[Option.join_some] at hs;subst hs;have hlt:b<hp.length:=(List.getElem?_eq_some_iff.1 hb).1;rw[List.getElem?_set_self hlt];simp
    ·rw[List.getElem?_set_ne (Ne.symm e)];cases hp[b]? <;> simp[e]
 have h3:∀(hp:List (Option OB)),(kilB hp ef.kil)[b]? = (hp[b]?).map (F3 ef b):=by
  intro hp;unfold kilB F3;cases hk:ef.kil with
  | none=>simp
  | some k =>
   simp only;by_cases e:b=k
   ·subst e;cases hb:hp[b]? with
    | none =>
     have:hp.length<=b:=List.getElem?_eq_none_iff.1 hb;rw[List.set_eq_of_length_le this,hb];rfl
    | some o =>
     have hlt:b<hp.length:=(List.getElem?_eq_some_iff.1 hb).1;rw[List.getElem?_set_self hlt];simp
   ·rw[List.getElem?_set_ne (Ne.symm e)];cases hp[b]? <;> simp[Ne.symm e]
 have h4:∀(hp:List (Option OB)),(match ef.new with | some k=>hp.set s (some ⟨false,k⟩) | none=>hp)[b]? = (hp[b]?).map (F4 ef s b):=by
  intro hp;unfold F4;cases hn:ef.new with
  | none=>simp
  | some k =>
   simp only;by_cases e:b=s
   ·subst e;cases hb:hp[b]? with
    | none =>
     have:hp.length<=b:=List.getElem?_eq_none_iff.1 hb;rw[List.set_eq_of_length_le this,hb];rfl
    | some o =>
     have hlt:b<hp.length:=(List.getElem?_eq_some_iff.1 hb).1;rw[List.getElem?_set_self hlt];simp
   ·rw[List.getElem?_set_ne (Ne.symm e)];cases hp[b]? <;> simp[e]
 show(match ef.new with | some k=>(kilB (updB (freezeL st.hp ef.frz) ef.upd) ef.kil).set s (some ⟨false,k⟩) | none=>kilB (updB (freezeL st.hp ef.frz) ef.upd) ef.kil)[b]? = _
 rw[h4,h3,h2,get_freezeL,Option.map_map,Option.map_map,Option.map_map];rfl
theorem Ya(ef:Eff)(dst:Option Tmp)(s:Nat)(st:St)(b:Nat):slot (zo ef dst s st).hp b=match st.hp[b]? with | some o=>FF ef s b o | none=>none:=by rw[JM,J1];cases st.hp[b]? <;> rfl
def Eff.touch(ef:Eff)(s b:Nat):Prop:=b∈ef.frz\/(∃k,ef.upd=some (b,k))\/ef.kil=some b\/(ef.new.isSome=true/\b=s)
def Eff.marks(ef:Eff)(s b:Nat):Prop:=b∈ef.frz/\(∀k,ef.upd≠some (b,k))/\ef.kil≠some b/\(ef.new.isSome=true->b≠s)
theorem FF_off{ef:Eff}{s b:Nat}(h:¬ef.touch s b)(o:Option OB):FF ef s b o=o:=by
 simp only[Eff.touch,not_or,not_and] at h;obtain⟨h1,h2,h3,h4⟩:=h;unfold FF F1 F2 F3 F4;rw[if_neg h1];have e2:(match ef.upd with | some (u,blk)=>if b=u then o.map (λob=>{ ob with blk }) else o | none=>o)=o:=by
  cases hu:ef.upd with
  | none=>rfl
  | some p =>
   obtain⟨u,k⟩:=p;simp only;rw[if_neg];rintro rfl;exact h2 ⟨k,hu⟩
 rw[e2,if_neg h3];cases hn:ef.new with
 | none=>rfl
 | some k =>
  simp only;rw[if_neg (h4 (by simp[hn]))]
theorem FF_marks{ef:Eff}{s b:Nat}(h:ef.marks s b)(o:Option OB):FF ef s b o=fzO o:=by
 obtain⟨h1,h2,h3,h4⟩:=h;unfold FF F1 F2 F3 F4;rw[if_pos h1];have e2:∀o:Option OB,(match ef.upd with | some (u,blk)=>if b=u then o.map (λob=>{ ob with blk }) else o | none=>o)=o:=by
  intro o;cases hu:ef.upd with
  | none=>rfl
  | some p =>
   obtain⟨u,k⟩:=p;simp only;rw[if_neg];rintro rfl;exact h2 k hu
 rw[e2,if_neg h3];cases hn:ef.new with
 | none=>rfl
 | some k =>
  simp only;rw[if_neg (h4 (by simp[hn]))]
theorem applyE_comm{e1 e2:Eff}{d1 d2:Option Tmp}{s1 s2:Nat}{st:St}(hd:∀d,d1=some d->d2≠some d)(h:∀b,e1.touch s1 b->e2.touch s2 b->e1.marks s1 b/\e2.marks s2 b) :
  zo e2 d2 s2 (zo e1 d1 s1 st)=zo e1 d1 s1 (zo e2 d2 s2 st):=by
 have ht:(zo e2 d2 s2 (zo e1 d1 s1 st)).tm=(zo e1 d1 s1 (zo e2 d2 s2 st)).tm:=by
  show putT (putT st.tm d1 e1.v) d2 e2.v=putT (putT st.tm d2 e2.v) d1 e1.v;cases d1 with
  | none=>rfl
  | some x =>
   cases d2 with
   | none=>rfl
   | some y =>
    have:x≠y:=λe=>hd x rfl (by rw[e])
    exact List.set_comm _ _ this
 have hh:(zo e2 d2 s2 (zo e1 d1 s1 st)).hp=(zo e1 d1 s1 (zo e2 d2 s2 st)).hp:=by
  apply List.ext_getElem?;intro b;rw[J1,J1,J1,J1,Option.map_map,Option.map_map];congr 1;funext o;simp only[Function.comp];by_cases a1:e1.touch s1 b
  ·by_cases a2:e2.touch s2 b
   ·obtain⟨m1,m2⟩:=h b a1 a2;rw[FF_marks m1,FF_marks m2,FF_marks m2,FF_marks m1]
   ·rw[FF_off a2,FF_off a2]
  ·rw[FF_off a1,FF_off a1]
 have key:∀x y:St,x.tm=y.tm->x.hp=y.hp->x=y:=λx y h1 h2=>by cases x;cases y;simp_all
 exact key _ _ ht hh
def Pur(ef:Eff):Prop:=∃v,ef={ v }
section
variable{E:Env}{hp:List (Option OB)}
theorem jR{v:AV}{ef:Eff}(h:zj v=some ef):Pur ef:=⟨v,by simp[zj] at h;exact h.symm⟩
theorem pur_loadE{t:TypeId}{a:AV}{ef:Eff}(h:YQ E t hp a=some ef):Pur ef:=by
 unfold YQ at h;obtain⟨td,_,h⟩:=bind_some h;split at h
 ·obtain⟨_,h⟩:=zJ h;exact jR h
 ·obtain⟨ob,hob,h⟩:=bind_some h;obtain⟨v,hv,h⟩:=bind_some h;obtain⟨x,hx,h⟩:=bind_some h;obtain⟨_,h⟩:=zJ h;exact jR h
 ·simp at h
theorem pur_buildE{t:TypeId}{ps:List (Nat×AV)}{ef:Eff}(h:Q9 E t ps=some ef):Pur ef:=by
 have key:∀{tag:Nat} {z:DV},QV E tag z ps=some ef->Pur ef:=by
  intro tag z h;unfold QV at h;split at h
  ·split at h
   ·obtain⟨fs,hf,h⟩:=bind_some h;exact jR h
   ·simp at h
  ·simp at h
 unfold Q9 at h;obtain⟨td,_,h⟩:=bind_some h;split at h
 ·exact key h
 ·exact key h
 ·simp at h
theorem pur_sliceE{t:TypeId}{x:AV}{lo hi mx:Option AV}{ef:Eff}(h:YM E t x lo hi mx=some ef):Pur ef:=by
 unfold YM at h;obtain⟨td,_,h⟩:=bind_some h;obtain⟨l,_,h⟩:=bind_some h;split at h
 ·obtain⟨_,_,h⟩:=bind_some h;obtain⟨_,h⟩:=zJ h;exact jR h
 ·obtain⟨_,_,h⟩:=bind_some h;obtain⟨_,_,h⟩:=bind_some h;obtain⟨_,h⟩:=zJ h;split at h
  ·exact jR h
  ·obtain⟨_,_,h⟩:=bind_some h;obtain⟨_,h⟩:=zJ h;exact jR h
 ·obtain⟨_,_,h⟩:=bind_some h;obtain⟨_,_,h⟩:=bind_some h;obtain⟨_,h⟩:=zJ h;split at h
  ·exact jR h
  ·obtain⟨_,_,h⟩:=bind_some h;obtain⟨_,h⟩:=zJ h;exact jR h
 ·obtain⟨_,_,h⟩:=bind_some h;obtain⟨_,_,h⟩:=bind_some h;obtain⟨_,h⟩:=zJ h;exact jR h
 ·simp at h
theorem pur_fieldAddrE{t:TypeId}{x:AV}{i:Nat}{ef:Eff}(h:jq E t x i=some ef):Pur ef:=by
 unfold jq at h;obtain⟨td,_,h⟩:=bind_some h;split at h
 ·split at h
  ·obtain⟨_,h⟩:=zJ h;exact jR h
  ·split at h
   ·split at h
    ·exact jR h
    ·simp at h
   ·simp at h
  ·simp at h
 ·simp at h
theorem pur_fieldE{t:TypeId}{x:AV}{i:Nat}{ef:Eff}(h:zA3 E t x i=some ef):Pur ef:=by
 unfold zA3 at h;obtain⟨td,_,h⟩:=bind_some h;split at h
 ·obtain⟨_,_,h⟩:=bind_some h;obtain⟨_,_,h⟩:=bind_some h;obtain⟨v,hv,h⟩:=bind_some h;obtain⟨_,h⟩:=zJ h;exact jR h
 ·simp at h
theorem pur_indexE{t:TypeId}{x ix:AV}{ef:Eff}(h:Yy E t x ix=some ef):Pur ef:=by
 unfold Yy at h;obtain⟨td,_,h⟩:=bind_some h;obtain⟨i,_,h⟩:=bind_some h;obtain⟨_,h⟩:=zJ h;split at h
 ·obtain⟨_,_,h⟩:=bind_some h;obtain⟨v,hv,h⟩:=bind_some h;obtain⟨_,h⟩:=zJ h;exact jR h
 ·split at h
  ·split at h
   ·exact jR h
   ·simp at h
  ·simp at h
 ·simp at h
theorem pur_indexAddrE{t:TypeId}{x ix:AV}{ef:Eff}(h:jd E t x ix=some ef):Pur ef:=by
 unfold jd at h;obtain⟨td,_,h⟩:=bind_some h;obtain⟨i,_,h⟩:=bind_some h;split at h
 ·obtain⟨_,_,h⟩:=bind_some h;split at h
  ·obtain⟨_,h⟩:=zJ h;split at h
   ·exact jR h
   ·simp at h
  ·obtain⟨_,h⟩:=zJ h;exact jR h
  ·simp at h
 ·split at h
  ·obtain⟨_,h⟩:=zJ h;exact jR h
  ·split at h
   ·obtain⟨_,h⟩:=zJ h;split at h
    ·exact jR h
    ·simp at h
   ·simp at h
  ·simp at h
 ·simp at h
theorem pur_lookupE{t:TypeId}{m k:AV}{ok:Bool}{ef:Eff}(h:JN E t hp m k ok=some ef):Pur ef:=by
 unfold JN at h;obtain⟨td,_,h⟩:=bind_some h;split at h
 ·obtain⟨_,_,h⟩:=bind_some h;obtain⟨_,_,h⟩:=bind_some h;split at h
  ·obtain⟨_,h⟩:=zJ h;obtain⟨_,_,h⟩:=bind_some h;obtain⟨r,_,h⟩:=bind_some h;split at h <;> (exact jR h)
  ·simp at h
 ·simp at h
theorem pur_lenE{ts:List TypeId}{args:List AV}{ef:Eff}(h:lenE E ts hp args=some ef):Pur ef:=by
 unfold lenE at h;split at h
 case h_2=>simp at h
 split at h
 case h_2=>simp at h
 obtain⟨td,_,h⟩:=bind_some h;split at h
 all_goals first
  | (exact jR h)
  | (obtain⟨_,_,h⟩:=bind_some h;exact jR h)
  | (simp at h)
theorem pur_maxE{args:List AV}{ef:Eff}(h:maxE args=some ef):Pur ef:=by
 unfold maxE at h;split at h
 ·obtain⟨_,_,h⟩:=bind_some h;exact jR h
 ·simp at h
theorem pur_minE{args:List AV}{ef:Eff}(h:minE args=some ef):Pur ef:=by
 unfold minE at h;split at h
 ·obtain⟨_,_,h⟩:=bind_some h;exact jR h
 ·simp at h
theorem pur_extractE{i:Nat}{x:AV}{ef:Eff}(h:QS i x=some ef):Pur ef:=by
 unfold QS at h;split at h
 ·split at h
  ·exact jR h
  ·simp at h
 ·simp at h
theorem pur_nilCheckE{x:AV}{ef:Eff}(h:YW x=some ef):Pur ef:=by
 unfold YW at h;split at h <;> try (simp at h;done)
 exact jR h
structure Form(hp:List (Option OB))(op:Op)(ef:Eff):Prop where
 upd:jx op=false->ef.upd=none
 kil:(∀c,op=.call c->c.callee≠.builtin .append)->ef.kil=none
 frz:(∀c,op=.call c->c.callee≠.builtin .append/\c.callee≠.builtin .copy/\∀f,c.callee≠.value f)->ef.frz=[]
 new:ef.new.isSome=true->owns op=true
 liveU:∀b k,ef.upd=some (b,k)->∃ob,slot hp b=some ob
 liveK:∀b,ef.kil=some b->∃ob,slot hp b=some ob
theorem QT{call:FuncId->List DV->Option CR}{op:Op}{dst:Nat}{tm:List AV}{ef:Eff}(h:effE E call op dst tm hp=some ef):Form hp op ef:=by
 have pur:Pur ef->Form hp op ef:=λhp'=>by obtain⟨v,rfl⟩:=hp';exact⟨λ_=>rfl,λ_=>rfl,λ_=>rfl,by simp,by simp,by simp⟩
 cases op <;> simp only[effE] at h <;> try (simp at h;done)
 case move x=>obtain⟨v,hv,h⟩:=bind_some h;exact pur (jR h)
 case assign x=>obtain⟨v,hv,h⟩:=bind_some h;exact pur (jR h)
 case pick c x y =>
  obtain⟨v,_,h⟩:=bind_some h;obtain⟨b,_,h⟩:=bind_some h;obtain⟨u,hu,h⟩:=bind_some h;exact pur (jR h)
 case alloc t =>
  obtain⟨td,_,h⟩:=bind_some h;obtain⟨_,h⟩:=zJ h;injection h with h;subst h
  exact⟨λ_=>rfl,λ_=>rfl,λ_=>rfl,λ_=>rfl,by simp,by simp⟩
 case box t x =>
  obtain⟨v,hv,h⟩:=bind_some h;obtain⟨td,_,h⟩:=bind_some h;obtain⟨_,h⟩:=zJ h;injection h with h;subst h
  exact⟨λ_=>rfl,λ_=>rfl,λ_=>rfl,λ_=>rfl,by simp,by simp⟩
 case build t ps=>obtain⟨vs,hv,h⟩:=bind_some h;exact pur (pur_buildE h)
 case buildSlice t n ps =>
  obtain⟨vs,hv,h⟩:=bind_some h;unfold JB at h;obtain⟨td,_,h⟩:=bind_some h;split at h
  case h_2=>simp at h
  obtain⟨ed,_,h⟩:=bind_some h;obtain⟨_,h⟩:=zJ h;obtain⟨vs,hv,h⟩:=bind_some h;split at h
  ·exact pur (jR h)
  ·injection h with h;subst h
   exact⟨λ_=>rfl,λ_=>rfl,λ_=>rfl,λ_=>rfl,by simp,by simp⟩
 case load t x=>obtain⟨v,hv,h⟩:=bind_some h;exact pur (pur_loadE h)
 case store t x y =>
  obtain⟨v,hv,h⟩:=bind_some h;obtain⟨u,hu,h⟩:=bind_some h;unfold Ym at h;obtain⟨td,_,h⟩:=bind_some h;split at h
  ·obtain⟨ob,hob,h⟩:=bind_some h;obtain⟨_,h⟩:=zJ h;obtain⟨_,h⟩:=zJ h;obtain⟨v,hv,h⟩:=bind_some h;obtain⟨y,hy,h⟩:=bind_some h;obtain⟨_,h⟩:=zJ h;obtain⟨blk,hb,h⟩:=bind_some h;injection h with h;subst h
   refine⟨by simp[jx],λ_=>rfl,λ_=>rfl,by simp,λb' k e=>?_,by simp⟩
   injection e with e;injection e with e1 e2;subst e1
   exact⟨ob,hob⟩
  ·simp at h
 case nilCheck x=>obtain⟨v,hv,h⟩:=bind_some h;exact pur (pur_nilCheckE h)
 case binOp op t x y c =>
  obtain⟨v,hv,h⟩:=bind_some h;obtain⟨u,hu,h⟩:=bind_some h;split at h
  ·obtain⟨_,h⟩:=zJ h;obtain⟨_,_,h⟩:=bind_some h;exact pur (jR h)
  ·simp at h
 case unOp op t x =>
  obtain⟨v,hv,h⟩:=bind_some h;split at h
  ·obtain⟨_,_,h⟩:=bind_some h;exact pur (jR h)
  ·simp at h
 case convert t1 t2 x =>
  obtain⟨v,hv,h⟩:=bind_some h;split at h
  ·obtain⟨_,_,h⟩:=bind_some h;exact pur (jR h)
  ·simp at h
 case makeFunc fn fs cs =>
  cases fn <;> try (simp[effE] at h;done)
  simp only[effE] at h;obtain⟨x,hx,h⟩:=bind_some h;obtain⟨y,hy,h⟩:=bind_some h;obtain⟨_,h⟩:=zJ h;exact pur (jR h)
 case makeMap t r =>
  cases r with
  | some r=>simp at h
  | none =>
   simp only at h;obtain⟨td,_,h⟩:=bind_some h;split at h
   ·injection h with h;subst h
    exact⟨λ_=>rfl,λ_=>rfl,λ_=>rfl,λ_=>rfl,by simp,by simp⟩
   ·simp at h
 case makeSlice t x y =>
  obtain⟨v,hv,h⟩:=bind_some h;obtain⟨u,hu,h⟩:=bind_some h;unfold Jg at h;obtain⟨td,_,h⟩:=bind_some h;split at h
  ·obtain⟨_,_,h⟩:=bind_some h;obtain⟨_,_,h⟩:=bind_some h;obtain⟨_,_,h⟩:=bind_some h;obtain⟨_,h⟩:=zJ h;injection h with h;subst h
   exact⟨λ_=>rfl,λ_=>rfl,λ_=>rfl,λ_=>rfl,by simp,by simp⟩
  ·simp at h
 case slice t x lo hi mx =>
  obtain⟨v,hv,h⟩:=bind_some h;obtain⟨_,_,h⟩:=bind_some h;obtain⟨_,_,h⟩:=bind_some h;obtain⟨_,_,h⟩:=bind_some h;exact pur (pur_sliceE h)
 case fieldAddr t x i=>obtain⟨v,hv,h⟩:=bind_some h;exact pur (pur_fieldAddrE h)
 case field t x i=>obtain⟨v,hv,h⟩:=bind_some h;exact pur (pur_fieldE h)
 case indexAddr t x i =>
  obtain⟨v,hv,h⟩:=bind_some h;obtain⟨_,_,h⟩:=bind_some h;exact pur (pur_indexAddrE h)
 case index t x i =>
  obtain⟨v,hv,h⟩:=bind_some h;obtain⟨_,_,h⟩:=bind_some h;exact pur (pur_indexE h)
 case lookup t m k ok =>
  obtain⟨_,_,h⟩:=bind_some h;obtain⟨_,_,h⟩:=bind_some h;exact pur (pur_lookupE h)
 case mapUpdate t m k x =>
  obtain⟨v,hv,h⟩:=bind_some h;obtain⟨_,_,h⟩:=bind_some h;obtain⟨_,_,h⟩:=bind_some h;unfold jP at h;obtain⟨td,_,h⟩:=bind_some h;split at h
  ·obtain⟨_,_,h⟩:=bind_some h;obtain⟨_,_,h⟩:=bind_some h;split at h
   ·obtain⟨_,h⟩:=zJ h;obtain⟨_,h⟩:=zJ h;split at h
    ·rename_i hsl;obtain⟨_,_,h⟩:=bind_some h;injection h with h;subst h
     refine⟨by simp[jx],λ_=>rfl,λ_=>rfl,by simp,λb' k e=>?_,by simp⟩
     injection e with e;injection e with e1 e2;subst e1
     exact⟨_,hsl⟩
    ·simp at h
   ·simp at h
  ·simp at h
 case insert t m k x =>
  obtain⟨v,hv,h⟩:=bind_some h;obtain⟨_,_,h⟩:=bind_some h;obtain⟨_,_,h⟩:=bind_some h;unfold jP at h;obtain⟨td,_,h⟩:=bind_some h;split at h
  ·obtain⟨_,_,h⟩:=bind_some h;obtain⟨_,_,h⟩:=bind_some h;split at h
   ·obtain⟨_,h⟩:=zJ h;obtain⟨_,h⟩:=zJ h;split at h
    ·rename_i hsl;obtain⟨_,_,h⟩:=bind_some h;injection h with h;subst h
     refine⟨by simp[jx],λ_=>rfl,λ_=>rfl,by simp,λb' k e=>?_,by simp⟩
     injection e with e;injection e with e1 e2;subst e1
     exact⟨_,hsl⟩
    ·simp at h
   ·simp at h
  ·simp at h
 case range t x =>
  obtain⟨td,_,h⟩:=bind_some h;split at h
  ·obtain⟨v,hv,h⟩:=bind_some h;unfold rangeE at h;split at h
   ·injection h with h;subst h
    exact⟨λ_=>rfl,λ_=>rfl,λ_=>rfl,λ_=>rfl,by simp,by simp⟩
   ·simp at h
  ·simp at h
 case next x b =>
  obtain⟨v,hv,h⟩:=bind_some h;unfold Q6 at h;split at h
  ·obtain⟨_,h⟩:=zJ h;split at h
   ·rename_i hsl;split at h
    ·injection h with h;subst h
     refine⟨by simp[jx],λ_=>rfl,λ_=>rfl,by simp,λb' k e=>?_,by simp⟩
     injection e with e;injection e with e1 e2;subst e1
     exact⟨_,hsl⟩
    ·exact pur (jR h)
   ·simp at h
  ·simp at h
 case extract x i=>obtain⟨v,hv,h⟩:=bind_some h;exact pur (pur_extractE h)
 case call c =>
  obtain⟨vs,hv,h⟩:=bind_some h;cases hc:c.callee with
  | invoke r m=>rw[hc] at h;simp at h
  | value f =>
   rw[hc] at h;simp only at h;obtain⟨vf,hvf,h⟩:=bind_some h;unfold qN at h;obtain⟨c',hc',h⟩:=bind_some h;obtain⟨ds,_,h⟩:=bind_some h;obtain⟨r,_,h⟩:=bind_some h;injection h with h;subst h
   refine⟨λ_=>by cases r <;> rfl,λ_=>by cases r <;> rfl,λhh=>absurd hc ((hh c rfl).2.2 f),λ_=>by simp[owns,hc],λb k e=>by cases r <;> simp[deliver] at e,λb e=>by cases r <;> simp[deliver] at e⟩
  | builtin b =>
   rw[hc] at h;cases b <;> try (simp at h;done)
   ·
    simp only at h;unfold JQ at h;split at h
    case h_2=>simp at h
    rename_i x y;split at h
    case h_2=>simp at h
    obtain⟨_,h⟩:=zJ h;obtain⟨td,_,h⟩:=bind_some h;split at h
    case h_2=>simp at h
    obtain⟨ed,_,h⟩:=bind_some h;obtain⟨bs,hbs,h⟩:=bind_some h;obtain⟨el,hel,h⟩:=bind_some h;obtain⟨_,h⟩:=zJ h;split at h
    ·exact pur (jR h)
    ·injection h with h;subst h
     refine⟨λ_=>rfl,λhh=>absurd hc (hh c rfl),λhh=>absurd hc (hh c rfl).1,λ_=>by simp[owns,hc],by simp,λb e=>?_⟩
     unfold YC at hbs;split at hbs
     ·injection hbs with hbs;subst hbs;simp at e
     ·split at hbs
      ·split at hbs
       ·rename_i hsl;split at hbs
        ·injection hbs with hbs;subst hbs
         simp only[Option.some.injEq] at e;subst e;exact⟨_,hsl⟩
        ·simp at hbs
       ·simp at hbs
      ·simp at hbs
     ·simp at hbs
   ·
    simp only at h;unfold zAk at h;split at h
    case h_2=>simp at h
    split at h
    case h_2=>simp at h
    obtain⟨td,_,h⟩:=bind_some h;split at h
    case h_2=>simp at h
    obtain⟨ed,_,h⟩:=bind_some h;split at h
    case h_2=>simp at h
    obtain⟨_,h⟩:=zJ h;split at h
    case h_2=>simp at h
    rename_i hsl;obtain⟨_,h⟩:=zJ h;obtain⟨el,hel,h⟩:=bind_some h;injection h with h;subst h
    refine⟨by simp[jx,hc],λ_=>rfl,λhh=>absurd hc (hh c rfl).2.1,by simp,λb' k e=>?_,by simp⟩
    injection e with e;injection e with e1 e2;subst e1
    exact⟨_,hsl⟩
   ·exact pur (pur_lenE h)
   ·exact pur (pur_maxE h)
   ·exact pur (pur_minE h)
theorem append_kil{call:FuncId->List DV->Option CR}{c:Call}{dst:Nat}{tm:List AV}{ef:Eff}(h:effE E call (.call c) dst tm hp=some ef)(hc:c.callee=.builtin .append) :
  (∀x,c.args.toList.head? = some x->∀b off len sz,evO E tm x=some (.own b off len sz)->ef.kil=some b) /\
  (∀b,ef.kil=some b->∃x len sz,c.args.toList.head? = some x/\evO E tm x=some (.own b 0 len sz)):=by
 simp only[effE] at h;obtain⟨vs,hv,h⟩:=bind_some h;rw[hc] at h;simp only at h;unfold JQ at h;split at h
 case h_2=>simp at h
 rename_i x y;split at h
 case h_2=>simp at h
 obtain⟨_,h⟩:=zJ h;obtain⟨td,_,h⟩:=bind_some h;split at h
 case h_2=>simp at h
 obtain⟨ed,_,h⟩:=bind_some h;obtain⟨bs,hbs,h⟩:=bind_some h;obtain⟨el,hel,h⟩:=bind_some h;obtain⟨_,h⟩:=zJ h;obtain⟨z,zs,hz,hev⟩:∃z zs,c.args.toList=z :: zs/\evO E tm z=some x:=by
  cases hl:c.args.toList with
  | nil=>rw[hl] at hv;simp[evL] at hv
  | cons z zs =>
   rw[hl] at hv;simp only[evL] at hv;obtain⟨v,hv1,hv⟩:=bind_some hv;obtain⟨vs,_,hv⟩:=bind_some hv;injection hv with hv
   injection hv with e1 e2;exact⟨z,zs,rfl,by rw[hv1,e1]⟩
 have hb:(∀b off len sz,x=.own b off len sz->bs.2=some b)/\∀b,bs.2=some b->∃len sz,x=.own b 0 len sz:=by
  unfold YC at hbs;split at hbs
  ·injection hbs with hbs;subst hbs;simp
  ·split at hbs
   ·rename_i hcond;split at hbs
    ·split at hbs
     ·injection hbs with hbs;subst hbs
      refine⟨λb off len sz e=>by injection e with e1;rw[e1],λb e=>?_⟩
      simp only[Option.some.injEq] at e;subst e;rw[hcond.2];exact⟨_,_,rfl⟩
     ·simp at hbs
    ·simp at hbs
   ·simp at hbs
  ·simp at hbs
 split at h
 ·rename_i e1 _;refine⟨λw hw b off len sz hwv=>?_,λb e=>?_⟩
  ·rw[hz] at hw;simp only[List.head?_cons,Option.some.injEq] at hw;subst hw;rw[hev] at hwv;injection hwv with hwv
   rw[hb.1 b off len sz hwv] at e1;simp at e1
  ·simp[zj] at h;subst h;simp at e
 ·injection h with h;subst h
  refine⟨λw hw b off len sz hwv=>?_,λb e=>?_⟩
  ·rw[hz] at hw;simp only[List.head?_cons,Option.some.injEq] at hw;subst hw;rw[hev] at hwv;injection hwv with hwv
   exact hb.1 b off len sz hwv
  ·obtain⟨len,sz,e⟩:=hb.2 b e;exact⟨z,len,sz,by rw[hz];rfl,by rw[hev,e]⟩
theorem effE_quiet{ops:List Oper}{call:FuncId->List DV->Option CR}{op:Op}(hq:(cls ops op).heeds=false)(dst:Nat)(tm:List AV)(hp hp':List (Option OB)):effE E call op dst tm hp=effE E call op dst tm hp':=by
 cases op <;> simp only[effE]
 case makeFunc fn fs cs=>cases fn <;> simp only[effE]
 case call c =>
  cases hc:c.callee with
  | value f=>simp[cls,hc,Cls.heeds] at hq
  | invoke r m=>rfl
  | builtin b =>
   cases b <;> try (simp only;done)
   ·simp only[cls,hc] at hq;split at hq <;> (try (simp[Cls.heeds] at hq;done))
    split at hq <;> (try (simp[Cls.heeds] at hq;done))
    split at hq <;> simp[Cls.heeds] at hq
   ·simp[cls,hc,Cls.heeds] at hq
   ·simp[cls,hc,Cls.heeds] at hq
 all_goals (simp[cls,Cls.heeds] at hq)
theorem effE_dst{call:FuncId->List DV->Option CR}{op:Op}(ho:owns op=false)(d d':Nat)(tm:List AV):effE E call op d tm hp=effE E call op d' tm hp:=by
 cases op <;> simp only[effE]
 case makeFunc fn fs cs=>cases fn <;> simp only[effE]
 case call c =>
  cases hc:c.callee with
  | value f=>simp[owns,hc] at ho
  | invoke r m=>rfl
  | builtin b =>
   cases b <;> try (simp only;done)
   simp[owns,hc] at ho
 all_goals (simp[owns] at ho)
end
end Go.Am
namespace Go.Am
open Go.Proofs
open Go Go.RowKit
def freeRef(s:Nat)(st:St):Prop:=slot st.hp s=none/\(∀(t:Nat) (v:AV),st.tm[t]? = some v->noRef s v=true)/\∀b ob,slot st.hp b=some ob->zl s ob.blk=true
def onlyAt(s:Nat)(st:St):Prop:=(∀(t:Nat) (v:AV),t≠s->st.tm[t]? = some v->noRef s v=true)/\∀b ob,slot st.hp b=some ob->zl s ob.blk=true
def effChk(loud:Bool)(may:Option Nat)(o:Oper)(ef:Eff):Option Eff :=
 zv (ef.ok && (loud || (ef.upd.isNone && (ef.kil.isNone || ef.kil == may)))) (match ef.new with
  | none=>some ef
  | some b=>zv (o.dst.isSome && zl (zc o) b) (some ef))
def effG(E:Env)(call:FuncId->List DV->Option CR)(ops:List Oper)(o:Oper)(st:St):Option Eff :=
 bnd (jn ops o st.tm) λg=>match g with
  | false=>some { v:=.d (.tup []) }
  | true=>bnd (effE E call o.op (zc o) st.tm st.hp) (effChk (cls ops o.op).loud (qK ops o.op) o)
def Y3(E:Env)(call:FuncId->List DV->Option CR)(ops:List Oper)(o:Oper)(st:St):Option St :=
 bnd (effG E call ops o st) λef=>zv (ef.new.isNone || (slot st.hp (zc o)).isNone) (some (zo ef o.dst (zc o) st))
section
variable{E:Env}{call:FuncId->List DV->Option CR}{ops:List Oper}
theorem Yc{loud:Bool}{may:Option Nat}{o:Oper}{ef e:Eff}(h:effChk loud may o ef=some e):e=ef/\ef.ok=true/\(loud=true\/(ef.upd=none/\(ef.kil=none\/ef.kil=may)))/\∀b,ef.new=some b->o.dst.isSome=true/\zl (zc o) b=true:=by
 unfold effChk at h;obtain⟨h1,h⟩:=zJ h;simp only[Bool.and_eq_true,Bool.or_eq_true,Option.isNone_iff_eq_none,beq_iff_eq] at h1;cases hn:ef.new with
 | none =>
  rw[hn] at h;injection h with h
  exact⟨h.symm,h1.1,h1.2,by simp⟩
 | some b =>
  rw[hn] at h;obtain⟨h2,h⟩:=zJ h;injection h with h
  simp only[Bool.and_eq_true] at h2;exact⟨h.symm,h1.1,h1.2,λb' e=>by injection e with e;subst e;exact h2⟩
theorem J3{o:Oper}{st:St}{ef:Eff}(h:effG E call ops o st=some ef):(jn ops o st.tm=some false/\ef={ v:=.d (.tup []) })\/(jn ops o st.tm=some true/\effE E call o.op (zc o) st.tm st.hp=some ef/\effChk (cls ops o.op).loud (qK ops o.op) o ef=some ef):=by
 unfold effG at h;obtain⟨g,hg,h⟩:=bind_some h;cases g with
 | false=>injection h with h;exact .inl ⟨hg,h.symm⟩
 | true =>
  obtain⟨e,he,h⟩:=bind_some h;have:=(Yc h).1;subst this;exact .inr ⟨hg,he,h⟩
theorem YY{o:Oper}{st:St}{ef:Eff}(h:effG E call ops o st=some ef):Form st.hp o.op ef/\ef.ok=true/\((cls ops o.op).loud=true\/(ef.upd=none/\(ef.kil=none\/ef.kil=qK ops o.op)))/\∀b,ef.new=some b->o.dst.isSome=true/\zl (zc o) b=true:=by
 rcases J3 h with ⟨_,rfl⟩ | ⟨_,he,hc⟩
 ·exact⟨⟨λ_=>rfl,λ_=>rfl,λ_=>rfl,by simp,by simp,by simp⟩,rfl,.inr ⟨rfl,.inl rfl⟩,by simp⟩
 ·obtain⟨_,h1,h2,h3⟩:=Yc hc;exact⟨QT he,h1,h2,h3⟩
theorem looks_op{o:Oper}{t:Tmp}(h:Operand.tmp t∈o.op.operands):t∈looks ops o:=by unfold looks;refine List.mem_append_left _ (List.mem_filterMap.2 ⟨.tmp t,by simpa using h,rfl⟩)
theorem evO_put{o:Oper}{tm:List AV}{dst:Option Tmp}{v:AV}(h:∀d,dst=some d->d ∉ looks ops o):∀x∈o.op.operands,evO E tm x=evO E (putT tm dst v) x:=by
 intro x hx;cases dst with
 | none=>rfl
 | some d =>
  cases x with
  | tmp t =>
   have hne:d≠t:=by rintro rfl;exact h d rfl (looks_op hx)
   simp only[evO,putT];rw[List.getElem?_set_ne hne]
  | _=>rfl
theorem guardV_put{o:Oper}{tm:List AV}{dst:Option Tmp}{v:AV}(h:∀d,dst=some d->d ∉ looks ops o):jn ops o tm=jn ops o (putT tm dst v):=by
 cases dst with
 | none=>rfl
 | some d =>
  unfold jn;cases hg:o.guard with
  | none=>rfl
  | some p =>
   obtain⟨j,want⟩:=p;simp only;cases hj:ops[j]? with
   | none=>rfl
   | some g =>
    simp only;cases hd:g.dst with
    | none=>rfl
    | some t =>
     have hne:d≠t:=by rintro rfl;refine h d rfl ?_;unfold looks;refine List.mem_append_right _ ?_;simp[hg,hj,hd]
     simp only[putT];rw[List.getElem?_set_ne hne]
theorem Yz{o:Oper}{tm:List AV}{s:Nat}(h:∀(t:Nat) (v:AV),t∈looks ops o->tm[t]? = some v->noRef s v=true):∀x∈o.op.operands,∀v,evO E tm x=some v->noRef s v=true:=by
 intro x hx v hv;cases x with
 | tmp t=>exact h t v (looks_op hx) hv
 | const c=>simp only[evO] at hv;split at hv <;> simp at hv;subst hv;rfl
 | global g=>simp only[evO] at hv;split at hv <;> simp at hv;subst hv;rfl
 | func f=>simp only[evO,Option.some.injEq] at hv;subst hv;rfl
theorem untouched{o:Oper}{st:St}{ef:Eff}(h:effG E call ops o st=some ef){s:Nat}(hd:o.dst≠some s)(hown:owns o.op=true->o.dst.isSome=true)
  (hl:∀(t:Nat) (v:AV),t∈looks ops o->st.tm[t]? = some v->noRef s v=true) (hh:∀b ob,slot st.hp b=some ob->zl s ob.blk=true):Eff.off s ef\/(o.dst=none/\ef.new=none/\(∀b k,ef.upd=some (b,k)->b≠s/\zl s k=true)/\ef.kil≠some s/\s ∉ ef.frz):=by
 rcases J3 h with ⟨_,rfl⟩ | ⟨_,he,hc⟩
 ·exact .inl (zu rfl)
 ·cases hdst:o.dst with
  | some d =>
   left;have:s≠zc o:=by unfold zc;rw[hdst];simp;rintro rfl;exact hd hdst
   exact eff_off he this (Yz hl) hh
  | none =>
   right;have hno:owns o.op=false:=by
    cases hx:owns o.op with
    | false=>rfl
    | true=>have:=hown hx;rw[hdst] at this;simp at this
   have hnew:ef.new=none:=by
    cases hn:ef.new with
    | none=>rfl
    | some b=>have:=(QT he).new (by simp[hn]);rw[hno] at this;simp at this
   rw[effE_dst hno _ (s+1)] at he;have ho:=eff_off he (by omega) (Yz hl) hh
   exact⟨rfl,hnew,ho.upd,ho.kil,ho.frz⟩
theorem Jy{o:Oper}{st:St}{ef:Eff}(h:effG E call ops o st=some ef){s:Nat}(hd:o.dst≠some s)(hown:owns o.op=true->o.dst.isSome=true)
  (hl:∀(t:Nat) (v:AV),t∈looks ops o->st.tm[t]? = some v->noRef s v=true) (hh:∀b ob,slot st.hp b=some ob->zl s ob.blk=true):¬ef.touch (zc o) s:=by
 have hs:ef.new.isSome=true->s≠zc o:=λhn=>by obtain⟨b,hb⟩:=Option.isSome_iff_exists.1 hn;obtain⟨hds,_⟩:=(YY h).2.2.2 b hb;obtain⟨d,hdd⟩:=Option.isSome_iff_exists.1 hds;unfold zc;rw[hdd];simp;rintro rfl;exact hd hdd
 rcases untouched h hd hown hl hh with ho | ⟨_,hn,h1,h2,h3⟩
 ·rintro (a | ⟨k,a⟩ | a | ⟨a,b⟩)
  ·exact ho.frz a
  ·exact(ho.upd s k a).1 rfl
  ·exact ho.kil a
  ·exact hs a b
 ·rintro (a | ⟨k,a⟩ | a | ⟨a,b⟩)
  ·exact h3 a
  ·exact(h1 s k a).1 rfl
  ·exact h2 a
  ·exact hs a b
structure Pair(ops:List Oper)(a b:Oper):Prop where
 ma:a∈ops
 mb:b∈ops
 oa:owns a.op=true->a.dst.isSome=true
 ob:owns b.op=true->b.dst.isSome=true
 ne:∀d,a.dst=some d->b.dst≠some d
 ab:∀d,a.dst=some d->d ∉ looks ops b
 ba:∀d,b.dst=some d->d ∉ looks ops a
 la:(cls ops a.op).loud=true->(cls ops b.op).heeds=false
 lb:(cls ops b.op).loud=true->(cls ops a.op).heeds=false
theorem Pair.symm{a b:Oper}(h:Pair ops a b):Pair ops b a:=⟨h.mb,h.ma,h.ob,h.oa,λd hb ha=>h.ne d ha hb,h.ba,h.ab,h.lb,h.la⟩
structure Know(ops:List Oper)(o:Oper)(st:St):Prop where
 free:owns o.op=true->freeRef (zc o) st
 only:∀t,qK ops o.op=some t->onlyAt t st
theorem zBL{op:Op}{t:Tmp}(h:qK ops op=some t):cls ops op=.C/\baseT op=some t/\priv ops t=true:=by
 unfold qK at h;cases hc:cls ops op <;> rw[hc] at h <;> simp at h
 refine⟨rfl,h,?_⟩;cases op <;> simp only[cls] at hc <;> try (cases hc;done)
 rename_i c;cases hcc:c.callee <;> rw[hcc] at hc <;> try (simp at hc;done)
 rename_i bi;cases bi <;> simp only at hc <;> try (cases hc;done)
 split at hc
 ·cases hc
 ·rw[h] at hc;simp only at hc;split at hc
  ·assumption
  ·cases hc
theorem baseT_looks{o:Oper}{t:Tmp}(h:baseT o.op=some t):t∈looks ops o:=by
 unfold baseT at h;split at h
 ·rename_i c hop;split at h
  ·rename_i t' hcc hx;injection h with h;subst h
   refine looks_op ?_;rw[hop];simp only[Op.operands,Call.operands];have:Operand.tmp t'∈c.args.toList:=List.mem_of_mem_head? hx;simp;exact .inr (by simpa using this)
  ·simp at h
 ·simp at h
theorem priv_two{t:Tmp}(h:priv ops t=true){x y:Oper}(hx:x∈ops)(hy:y∈ops)(hne:x≠y)(lx:t∈looks ops x):t ∉ looks ops y:=by
 intro ly;unfold priv at h;simp only[Bool.and_eq_true,decide_eq_true_eq] at h;have hlen:=h.2;have mx:x∈ops.filter λo=>(looks ops o).contains t:=List.mem_filter.2 ⟨hx,by simpa using lx⟩
 have my:y∈ops.filter λo=>(looks ops o).contains t:=List.mem_filter.2 ⟨hy,by simpa using ly⟩
 match hf:ops.filter λo=>(looks ops o).contains t with
 | []=>rw[hf] at mx;simp at mx
 | [z]=>rw[hf] at mx my;simp at mx my;exact hne (mx.trans my.symm)
 | _ :: _ :: _=>rw[hf] at hlen;simp at hlen
theorem heeds_quiet{op:Op}(h:(cls ops op).heeds=false):jx op=false/\(∀c,op=.call c->c.callee≠.builtin .append/\c.callee≠.builtin .copy/\∀f,c.callee≠.value f):=by
 cases op <;> simp only[cls] at h <;> try (simp[Cls.heeds] at h;done)
 all_goals try (exact⟨rfl,by simp⟩)
 rename_i c;refine⟨?_,λc' e=>?_⟩
 ·simp only[jx];split
  ·rename_i hc;rw[hc] at h;simp[Cls.heeds] at h
  ·rfl
 ·injection e with e;subst e
  refine⟨λhc=>?_,λhc=>?_,λf hc=>?_⟩
  ·rw[hc] at h;simp only at h;split at h
   ·simp[Cls.heeds] at h
   ·split at h
    ·split at h <;> simp[Cls.heeds] at h
    ·simp[Cls.heeds] at h
  ·rw[hc] at h;simp[Cls.heeds] at h
  ·rw[hc] at h;simp[Cls.heeds] at h
theorem writes_loud{op:Op}(h:jx op=true):(cls ops op).loud=true:=by
 cases op <;> simp only[jx] at h <;> try (simp at h;done)
 all_goals try rfl
 rename_i c;split at h
 ·rename_i hc;simp[cls,hc,Cls.loud]
 ·simp at h
theorem Pair.priv{a b:Oper}(h:Pair ops a b){t:Tmp}(ht:qK ops a.op=some t)(hds:a.dst.isSome=true):t ∉ looks ops b/\b.dst≠some t:=by
 obtain⟨_,h2,h3⟩:=zBL ht;have hla:=baseT_looks (ops:=ops) h2;refine⟨priv_two h3 h.ma h.mb ?_ hla,λhb=>h.ba t hb hla⟩
 rintro rfl;obtain⟨d,hd⟩:=Option.isSome_iff_exists.1 hds;exact h.ne d hd hd
theorem kil_dst{o:Oper}{st:St}{ef:Eff}(h:effG E call ops o st=some ef){b:Nat}(hk:ef.kil=some b)(hown:owns o.op=true->o.dst.isSome=true):o.dst.isSome=true:=by
 refine hown ?_;rcases J3 h with ⟨_,rfl⟩ | ⟨_,he,_⟩
 ·simp at hk
 ·cases hx:owns o.op with
  | true=>rfl
  | false =>
   have:=(QT he).kil (λc e hc=>by rw[e] at hx;simp[owns,hc] at hx)
   rw[this] at hk;simp at hk
theorem same_eff{x y:Oper}{st:St}(hp:Pair ops x y)(ky:Know ops y st)(kx:Know ops x st){ey:Eff}(hy:effG E call ops y st=some ey)
  (hok:∃e,(effE E call x.op (zc x) st.tm st.hp=some e\/effE E call x.op (zc x) (zo ey y.dst (zc y) st).tm (zo ey y.dst (zc y) st).hp=some e) /\
   ((cls ops x.op).loud=true\/(e.kil=none\/e.kil=qK ops x.op))) :
  effE E call x.op (zc x) st.tm st.hp=effE E call x.op (zc x) (zo ey y.dst (zc y) st).tm (zo ey y.dst (zc y) st).hp:=by
 have htm:(zo ey y.dst (zc y) st).tm=putT st.tm y.dst ey.v:=rfl;have hev:=evO_put (E:=E) (ops:=ops) (o:=x) (tm:=st.tm) (dst:=y.dst) (v:=ey.v) hp.ba;rw[htm] at hok ⊢;rw[<-effE_tm (hp:=(zo ey y.dst (zc y) st).hp) hev] at hok ⊢;cases hx:(cls ops x.op).heeds with
 | false=>exact effE_quiet hx _ _ _ _
 | true =>
  have hyl:(cls ops y.op).loud=false:=by
   cases h:(cls ops y.op).loud with
   | false=>rfl
   | true=>have:=hp.lb h;rw[hx] at this;cases this
  obtain⟨hF,_,hchk,hnew⟩:=YY hy;have hchk':ey.upd=none/\(ey.kil=none\/ey.kil=qK ops y.op):=by
   rcases hchk with h | h
   ·rw[hyl] at h;cases h
   ·exact h
  have hko:∀s,ey.kil=some s->onlyAt s st/\s ∉ looks ops x:=λs hs=>by
   have hm:qK ops y.op=some s:=by
    rcases hchk'.2 with e | e
    ·rw[e] at hs;cases hs
    ·rw[<-e];exact hs
   exact⟨ky.only s hm,(hp.symm.priv hm (kil_dst hy hs hp.ob)).1⟩
  have hno:∀s,ey.new.isSome=true->s=zc y->freeRef s st:=λs hn e=>by subst e;exact ky.free (hF.new hn)
  let X:Nat->Prop:=λs=>(ey.new.isSome=true/\s=zc y)\/ey.kil=some s
  have hnr:∀o∈x.op.operands,∀v,evO E st.tm o=some v->nrX X v:=λo ho v hv s hs=>by
   rcases hs with ⟨hn,e⟩ | hk
   ·exact Yz (E:=E) (ops:=ops) (o:=x) (λt v _ h=>(hno s hn e).2.1 t v h) o ho v hv
   ·obtain⟨h1,h2⟩:=hko s hk;exact Yz (E:=E) (ops:=ops) (o:=x) (λt v ht h=>h1.1 t v (by rintro rfl;exact h2 ht) h) o ho v hv
  have hslot:∀b,¬X b->slot (zo ey y.dst (zc y) st).hp b=F1 ey b (slot st.hp b):=by
   intro b hb;have hb1:ey.kil≠some b:=λh=>hb (.inr h)
   have hb2:ey.new.isSome=true->b≠zc y:=λh e=>hb (.inl ⟨h,e⟩)
   rw[Ya,JM];have hff:∀o,FF ey (zc y) b o=F1 ey b o:=λo=>by
    unfold FF F2 F3 F4;rw[hchk'.1,if_neg hb1];cases hn:ey.new with
    | none=>rfl
    | some k=>simp only;rw[if_neg (hb2 (by simp[hn]))]
   cases st.hp[b]? with
   | none=>simp[F1,fzO]
   | some o=>simp only[Option.join_some];exact hff o
  have hsim:HSim X st.hp (zo ey y.dst (zc y) st).hp:=⟨λb hb=>by
   rw[hslot b hb];unfold F1;split
   ·cases slot st.hp b <;> rfl
   ·rfl,λb ob _ hs s hX=>by
   rcases hX with ⟨hn,e⟩ | hk
   ·exact(hno s hn e).2.2 b ob hs
   ·exact(hko s hk).1.2 b ob hs⟩
  have hquiet:(cls ops x.op).loud=true->∀b,¬X b->slot st.hp b=slot (zo ey y.dst (zc y) st).hp b:=λhl b hb=>by obtain⟨q1,q2⟩:=heeds_quiet (hp.la hl);rw[hslot b hb];unfold F1;rw[hF.frz q2];simp
  refine effE_hp hsim hnr (λhw=>hquiet (writes_loud hw)) λc z hop hcc hz b off len sz hzv=>?_
  obtain⟨e,he,hkil⟩:=hok;have hek:e.kil=some b:=by
   rw[hop] at he;rcases he with he | he
   ·exact(append_kil he hcc).1 z hz b off len sz hzv
   ·exact(append_kil he hcc).1 z hz b off len sz hzv
  have hzo:z∈x.op.operands:=by rw[hop];simp only[Op.operands,Call.operands];have:z∈c.args.toList:=List.mem_of_mem_head? hz;simp;exact .inr (by simpa using this)
  rcases hkil with hl | hl | hl
  ·exact hquiet hl b (hnr z hzo _ hzv).own
  ·rw[hek] at hl;cases hl
  ·rw[hek] at hl;have hxd:x.dst.isSome=true:=hp.oa (by rw[hop];simp[owns,hcc])
   obtain⟨p1,p2⟩:=hp.priv hl.symm hxd;have honly:=kx.only b hl.symm;have hnt:=Jy hy p2 hp.ob (λt v ht h=>honly.1 t v (by rintro rfl;exact p1 ht) h) honly.2
   rw[Ya,JM];cases st.hp[b]? with
   | none=>rfl
   | some o=>simp only[Option.join_some];rw[FF_off hnt]
theorem swap{a b:Oper}{st st1 st2:St}(hp:Pair ops a b)(ka:Know ops a st)(kb:Know ops b st)(h1:Y3 E call ops a st=some st1)(h2:Y3 E call ops b st1=some st2) :
  ∃st1',Y3 E call ops b st=some st1'/\Y3 E call ops a st1'=some st2:=by
 unfold Y3 at h1 h2;obtain⟨ea,hea,h1⟩:=bind_some h1;obtain⟨g1,h1⟩:=zJ h1;injection h1 with h1;subst h1
 obtain⟨eb,heb,h2⟩:=bind_some h2;obtain⟨g2,h2⟩:=zJ h2;injection h2 with h2;subst h2
 have heb0:effG E call ops b st=some eb:=by
  have hg:jn ops b st.tm=jn ops b (zo ea a.dst (zc a) st).tm:=guardV_put hp.ab;rcases J3 heb with ⟨hb,rfl⟩ | ⟨hb,he,hc⟩
  ·unfold effG;rw[hg,hb];rfl
  ·have hs:=same_eff hp.symm ka kb hea ⟨eb,.inr he,by
    obtain⟨_,_,h,_⟩:=Yc hc;exact h.imp id (·.2)⟩
   unfold effG;rw[hg,hb];simp only[zN];rw[hs,he];exact hc
 obtain⟨fA,okA,chA,nwA⟩:=YY hea;obtain⟨fB,okB,chB,nwB⟩:=YY heb0;have g2':(eb.new.isNone || (slot st.hp (zc b)).isNone)=true:=by
  cases hn:eb.new with
  | none=>rfl
  | some k=>simp[(kb.free (fB.new (by simp[hn]))).1]
 refine⟨zo eb b.dst (zc b) st,?_,?_⟩
 ·unfold Y3;rw[heb0];simp only[zN,g2',zY]
 ·have hea1:effG E call ops a (zo eb b.dst (zc b) st)=some ea:=by
   have hg:jn ops a st.tm=jn ops a (zo eb b.dst (zc b) st).tm:=guardV_put hp.ba;rcases J3 hea with ⟨hb,rfl⟩ | ⟨hb,he,hc⟩
   ·unfold effG;rw[<-hg,hb];rfl
   ·have hs:=same_eff hp kb ka heb0 ⟨ea,.inl he,by
     obtain⟨_,_,h,_⟩:=Yc hc;exact h.imp id (·.2)⟩
    unfold effG;rw[<-hg,hb];simp only[zN];rw[<-hs,he];exact hc
  have siteNe:ea.new.isSome=true->eb.new.isSome=true->zc a≠zc b:=λha hb=>by obtain⟨k1,e1⟩:=Option.isSome_iff_exists.1 ha;obtain⟨k2,e2⟩:=Option.isSome_iff_exists.1 hb;obtain⟨d1,hd1⟩:=Option.isSome_iff_exists.1 (nwA k1 e1).1;obtain⟨d2,hd2⟩:=Option.isSome_iff_exists.1 (nwB k2 e2).1;unfold zc;rw[hd1,hd2];simp;rintro rfl;exact hp.ne d1 hd1 hd2
  have g1':(ea.new.isNone || (slot (zo eb b.dst (zc b) st).hp (zc a)).isNone)=true:=by
   cases hn:ea.new with
   | none=>rfl
   | some k =>
    have h0:=(ka.free (fA.new (by simp[hn]))).1
    rw[Ya];rw[JM] at h0;cases hx:st.hp[zc a]? with
    | none=>rfl
    | some o =>
     rw[hx] at h0;simp only[Option.join_some] at h0;subst h0;simp only[Option.isNone_some,Bool.false_or];have:FF eb (zc b) (zc a) none=none:=by
      unfold FF F1 F2 F3 F4;simp only[fzO,Option.map_none,ite_self];cases hu:eb.upd with
      | none =>
       simp only[ite_self];cases hb:eb.new with
       | none=>rfl
       | some k2=>simp only;rw[if_neg (siteNe (by simp[hn]) (by simp[hb]))]
      | some p =>
       obtain⟨u,k'⟩:=p;simp only[ite_self];cases hb:eb.new with
       | none=>rfl
       | some k2=>simp only;rw[if_neg (siteNe (by simp[hn]) (by simp[hb]))]
     rw[this];rfl
  unfold Y3;rw[hea1];simp only[zN,g1',zY,Option.some.injEq];refine(applyE_comm (d1:=a.dst) (d2:=b.dst) hp.ne λc ta tb=>?_).symm
  have cross:∀{x y:Oper} {ex ey:Eff},Pair ops x y->Know ops x st->Know ops y st->effG E call ops x st=some ex->effG E call ops y st=some ey->ex.touch (zc x) c->ey.touch (zc y) c ->
    (∀k,ex.upd≠some (c,k))/\ex.kil≠some c/\(ex.new.isSome=true->c≠zc x):=by
   intro x y ex ey hp kx ky hex hey tx ty;obtain⟨fX,_,chX,nwX⟩:=YY hex;obtain⟨fY,_,_,_⟩:=YY hey;have newX:ex.new.isSome=true->c≠zc x:=λhn e=>by
    obtain⟨k,hk⟩:=Option.isSome_iff_exists.1 hn;obtain⟨d,hd⟩:=Option.isSome_iff_exists.1 (nwX k hk).1;have hfree:=kx.free (fX.new hn);have hds:zc x=d:=by unfold zc;rw[hd];rfl
    refine Jy hey (s:=c) ?_ hp.ob (λt v _ h=>by rw[e];exact hfree.2.1 t v h) (λb ob h=>by rw[e];exact hfree.2.2 b ob h) ty
    rw[e,hds];exact hp.ne d hd
   have loudX:(cls ops x.op).loud=true->(∃ob,slot st.hp c=some ob)->False:=λhl ⟨ob,hob⟩=>by
    obtain⟨q1,q2⟩:=heeds_quiet (hp.la hl);rcases ty with a | ⟨k,a⟩ | a | ⟨a,e⟩
    ·rw[fY.frz q2] at a;simp at a
    ·rw[fY.upd q1] at a;cases a
    ·rw[fY.kil λc' e=>(q2 c' e).1] at a;cases a
    ·have:=(ky.free (fY.new a)).1;rw[<-e,hob] at this;cases this
   refine⟨λk hu=>?_,λhk=>?_,newX⟩
   ·rcases chX with hl | ⟨hn,_⟩
    ·exact loudX hl (fX.liveU c k hu)
    ·rw[hn] at hu;cases hu
   ·rcases chX with hl | ⟨_,hn | hm⟩
    ·exact loudX hl (fX.liveK c hk)
    ·rw[hn] at hk;cases hk
    ·rw[hk] at hm;have hds:=kil_dst hex hk hp.oa;obtain⟨p1,p2⟩:=hp.priv hm.symm hds;have honly:=kx.only c hm.symm;exact Jy hey p2 hp.ob (λt v ht h=>honly.1 t v (by rintro rfl;exact p1 ht) h) honly.2 ty
  have ca:=cross hp ka kb hea heb0 ta tb;have cb:=cross hp.symm kb ka heb0 hea tb ta;have fin:∀{e:Eff} {s:Nat},e.touch s c->(∀k,e.upd≠some (c,k))/\e.kil≠some c/\(e.new.isSome=true->c≠s)->e.marks s c:=by
   intro e s t h;refine⟨?_,h.1,h.2.1,h.2.2⟩;rcases t with a | ⟨k,a⟩ | a | ⟨a,b⟩
   ·exact a
   ·exact absurd a (h.1 k)
   ·exact absurd a h.2.1
   ·exact absurd b (h.2.2 a)
  exact⟨fin ta ca,fin tb cb⟩
end
end Go.Am
namespace Go.Am
open Go.Proofs
open Go Go.RowKit
section
variable{E:Env}{call:FuncId->List DV->Option CR}{ops:List Oper}{s:Nat}
theorem FF_noRef{ef:Eff}{site b:Nat}{o:Option OB}{ob:OB}(h:FF ef site b o=some ob)(ho:∀ob0,o=some ob0->zl s ob0.blk=true)(hn:∀k,ef.new=some k->zl s k=true)(hu:∀b k,ef.upd=some (b,k)->zl s k=true):zl s ob.blk=true:=by
 have h1:∀ob0,F1 ef b o=some ob0->zl s ob0.blk=true:=λob0 h=>by
  unfold F1 at h;split at h
  ·cases o with
   | none=>simp[fzO] at h
   | some x=>simp only[fzO,Option.map_some,Option.some.injEq] at h;subst h;exact ho x rfl
  ·exact ho ob0 h
 have h2:∀ob0,F2 ef b (F1 ef b o)=some ob0->zl s ob0.blk=true:=λob0 h=>by
  unfold F2 at h;cases hup:ef.upd with
  | none=>rw[hup] at h;exact h1 ob0 h
  | some p =>
   obtain⟨u,k⟩:=p;rw[hup] at h;simp only at h;split at h
   ·cases hx:F1 ef b o with
    | none=>rw[hx] at h;simp at h
    | some x=>rw[hx] at h;simp only[Option.map_some,Option.some.injEq] at h;subst h;exact hu u k hup
   ·exact h1 ob0 h
 have h3:∀ob0,F3 ef b (F2 ef b (F1 ef b o))=some ob0->zl s ob0.blk=true:=λob0 h=>by
  unfold F3 at h;split at h
  ·cases h
  ·exact h2 ob0 h
 unfold FF F4 at h;cases hnew:ef.new with
 | none=>rw[hnew] at h;exact h3 ob h
 | some k =>
  rw[hnew] at h;simp only at h;split at h
  ·injection h with h;subst h;exact hn k hnew
  ·exact h3 ob h
theorem zBj{ef:Eff}{dst:Option Tmp}{site:Nat}{st:St}(h:∀b ob,slot st.hp b=some ob->zl s ob.blk=true)(hn:∀k,ef.new=some k->zl s k=true)(hu:∀b k,ef.upd=some (b,k)->zl s k=true) :
  ∀b ob,slot (zo ef dst site st).hp b=some ob->zl s ob.blk=true:=by
 intro b ob hb;rw[Ya] at hb;cases ho:st.hp[b]? with
 | none=>rw[ho] at hb;cases hb
 | some o =>
  rw[ho] at hb;refine FF_noRef hb (λob0 e=>h b ob0 ?_) hn hu
  rw[JM,ho,e];rfl
theorem temps_noRef{tm:List AV}{dst:Option Tmp}{v:AV}{t:Nat}{x:AV}(h:(putT tm dst v)[t]? = some x):tm[t]? = some x\/(dst=some t/\x=v):=by
 cases dst with
 | none=>exact .inl h
 | some d =>
  simp only[putT] at h;by_cases e:t=d
  ·subst e;have hlt:t<tm.length:=by have:=(List.getElem?_eq_some_iff.1 h).1;simpa using this
   rw[List.getElem?_set_self hlt] at h;injection h with h
   exact .inr ⟨rfl,h.symm⟩
  ·rw[List.getElem?_set_ne (Ne.symm e)] at h;exact .inl h
theorem pres_only{ef:Eff}{dst:Option Tmp}{site:Nat}{st:St}(h:onlyAt s st)(hv:dst=none\/dst=some s\/noRef s ef.v=true)(hn:∀k,ef.new=some k->zl s k=true)(hu:∀b k,ef.upd=some (b,k)->zl s k=true):onlyAt s (zo ef dst site st):=by
 refine⟨λt v hne ht=>?_,zBj h.2 hn hu⟩
 rcases temps_noRef (show(putT st.tm dst ef.v)[t]? = some v from ht) with ht | ⟨hd,rfl⟩
 ·exact h.1 t v hne ht
 ·rcases hv with e | e | e
  ·rw[e] at hd;cases hd
  ·rw[e] at hd;injection hd with hd;exact absurd hd.symm hne
  ·exact e
theorem pres_free{ef:Eff}{dst:Option Tmp}{site:Nat}{st:St}(h:freeRef s st)(hv:dst=none\/noRef s ef.v=true)(hn:∀k,ef.new=some k->zl s k=true)(hu:∀b k,ef.upd=some (b,k)->zl s k=true)
  (ht:¬ef.touch site s):freeRef s (zo ef dst site st):=by
 refine⟨?_,λt v hx=>?_,zBj h.2.2 hn hu⟩
 ·have h0:=h.1;rw[Ya];rw[JM] at h0;cases ho:st.hp[s]? with
  | none=>rfl
  | some o=>rw[ho] at h0;simp only[Option.join_some] at h0;subst h0;exact FF_off ht _
 ·rcases temps_noRef (show(putT st.tm dst ef.v)[t]? = some v from hx) with hx | ⟨hd,rfl⟩
  ·exact h.2.1 t v hx
  ·rcases hv with e | e
   ·rw[e] at hd;cases hd
   ·exact e
theorem freeRef.only{st:St}(h:freeRef s st):onlyAt s st:=⟨λt v _ ht=>h.2.1 t v ht,h.2.2⟩
mutual
theorem zAM(c:Nat):∀v:AV,noRef s v=true->noRef s (jm c v)=true
 | .own b o l z,h=>by simp only[jm];split <;> first | rfl | exact h
 | .ptr b z e p,h=>by simp only[jm];split <;> first | rfl | exact h
 | .omp b,h=>by simp only[jm];split <;> first | rfl | exact h
 | .it b,h=>by simp only[jm];split <;> first | rfl | exact h
 | .agg t fs,h=>by simp only[noRef] at h;simp only[jm,noRef];exact YB c fs h
 | .fn f x y,h=>by simp only[noRef,Bool.and_eq_true] at h;simp only[jm,noRef,Bool.and_eq_true];exact⟨YB c x h.1,YB c y h.2⟩
 | .d x,_=>rfl
 | .undef,_=>rfl
theorem YB(c:Nat):∀l:List AV,jU s l=true->jU s (qM c l)=true
 | [],_=>rfl
 | v :: r,h=>by simp only[jU,Bool.and_eq_true] at h;simp only[qM,jU,Bool.and_eq_true];exact⟨zAM c v h.1,YB c r h.2⟩
end
mutual
theorem Qj(c:Nat):∀v:AV,noRef c (jm c v)=true
 | .own b o l z=>by simp only[jm];split <;> simp_all[noRef]
 | .ptr b z e p=>by simp only[jm];split <;> simp_all[noRef]
 | .omp b=>by simp only[jm];split <;> simp_all[noRef]
 | .it b=>by simp only[jm];split <;> simp_all[noRef]
 | .agg t fs=>by simp only[jm,noRef];exact j5 c fs
 | .fn f x y=>by simp only[jm,noRef,Bool.and_eq_true];exact⟨j5 c x,j5 c y⟩
 | .d x=>rfl
 | .undef=>rfl
theorem j5(c:Nat):∀l:List AV,jU c (qM c l)=true
 | []=>rfl
 | v :: r=>by simp only[qM,jU,Bool.and_eq_true];exact⟨Qj c v,j5 c r⟩
end
theorem tm_clear{c t:Nat}{st:St}{v:AV}(h:(clear c st).tm[t]? = some v):∃v0,st.tm[t]? = some v0/\v=jm c v0:=by
 simp only[clear,Yj,List.getElem?_map] at h;cases ht:st.tm[t]? with
 | none=>rw[ht] at h;cases h
 | some x=>rw[ht] at h;injection h with h;exact⟨x,rfl,h.symm⟩
theorem blk_clear{c b:Nat}{st:St}{ob:OB}(h:slot (clear c st).hp b=some ob):b≠c/\∃ob0,slot st.hp b=some ob0/\(zl s ob0.blk=true->zl s ob.blk=true)/\zl c ob.blk=true:=by
 obtain⟨hne,ob0,h0,hk⟩:=Jf h;refine⟨hne,ob0,h0,?_⟩;unfold J0 at hk;split at hk
 ·rename_i hx;injection hx with hx;subst hx;injection hk with hk;subst hk
  exact⟨λh=>YB c _ h,j5 c _⟩
 ·rename_i hne;injection hk with hk;subst hk
  obtain⟨z,blk⟩:=ob0;cases blk with
  | ac sz xs=>exact absurd rfl (hne z sz xs)
  | _=>exact⟨λh=>h,rfl⟩
theorem freeRef.clear{st:St}(h:freeRef s st)(c:Nat):freeRef s (clear c st):=by
 refine⟨?_,λt v ht=>?_,λb ob hb=>?_⟩
 ·cases hs:slot (Am.clear c st).hp s with
  | none=>rfl
  | some ob=>obtain⟨_,ob0,h0,_⟩:=Jf hs;rw[h.1] at h0;cases h0
 ·obtain⟨v0,h0,rfl⟩:=tm_clear ht;exact zAM c v0 (h.2.1 t v0 h0)
 ·obtain⟨_,ob0,h0,h1,_⟩:=blk_clear (s:=s) hb;exact h1 (h.2.2 b ob0 h0)
theorem onlyAt.clear{st:St}(h:onlyAt s st)(c:Nat):onlyAt s (clear c st):=by
 refine⟨λt v hne ht=>?_,λb ob hb=>?_⟩
 ·obtain⟨v0,h0,rfl⟩:=tm_clear ht;exact zAM c v0 (h.1 t v0 hne h0)
 ·obtain⟨_,ob0,h0,h1,_⟩:=blk_clear (s:=s) hb;exact h1 (h.2 b ob0 h0)
theorem zBF(c:Nat)(st:St):freeRef c (clear c st):=by
 refine⟨?_,λt v ht=>?_,λb ob hb=>?_⟩
 ·cases hs:slot (clear c st).hp c with
  | none=>rfl
  | some ob=>exact absurd rfl (Jf hs).1
 ·obtain⟨v0,_,rfl⟩:=tm_clear ht;exact Qj c v0
 ·exact(blk_clear (s:=c) hb).2.choose_spec.2.2
theorem Ys:∀(bs:List Nat) (st:St) (b:Nat),(b∈bs\/freeRef b st)->freeRef b (clearL bs st)
 | [],st,b,h=>h.resolve_left (by simp)
 | c :: bs,st,b,h=>by
  simp only[clearL];refine Ys bs _ b ?_;rcases h with h | h
  ·rcases List.mem_cons.1 h with rfl | h
   ·exact .inr (zBF b st)
   ·exact .inl h
  ·exact .inr (h.clear c)
theorem clear_free{st:St}(h:freeRef s st):clear s st=st:=by
 have h1:qM s st.tm=st.tm:=by
  refine QN s _ (Yw λv hv=>?_)
  obtain⟨i,hi,rfl⟩:=List.mem_iff_getElem.1 hv;exact h.2.1 i _ (List.getElem?_eq_getElem hi)
 have h2:(st.hp.map (J0 s)).set s none=st.hp:=by
  apply List.ext_getElem?;intro b;by_cases e:b=s
  ·subst e;have h0:=h.1;rw[JM] at h0;cases hb:st.hp[b]? with
   | none=>rw[List.set_eq_of_length_le (by simpa using List.getElem?_eq_none_iff.1 hb)];simp[hb]
   | some o =>
    rw[hb] at h0;simp only[Option.join_some] at h0;subst h0;have hlt:b<st.hp.length:=(List.getElem?_eq_some_iff.1 hb).1;rw[List.getElem?_set_self (by simpa using hlt)]
  ·rw[List.getElem?_set_ne (Ne.symm e),List.getElem?_map];cases hb:st.hp[b]? with
   | none=>rfl
   | some o =>
    cases o with
    | none=>rfl
    | some ob =>
     obtain⟨z,blk⟩:=ob;have hs:slot st.hp b=some ⟨z,blk⟩:=by rw[JM,hb];rfl
     simp only[Option.map_some,killO_id (h.2.2 b _ hs)]
 unfold clear;rw[h1,h2]
def Q2(E:Env)(call:FuncId->List DV->Option CR)(ops:List Oper)(o:Oper)(i:Nat)(st:St):Option St :=
 match pivot ops i with
 | true=>bnd (jn ops o st.tm) λg=>match g with
  | true=>YE E call o st
  | false=>some { st with tm:=putT st.tm o.dst (.d (.tup [])) }
 | false=>Y3 E call ops o st
def seqD(E:Env)(call:FuncId->List DV->Option CR)(ops:List Oper):List (Oper×Nat)->St->Option St
 | [],st=>some st
 | (o,i) :: r,st=>bnd (Q2 E call ops o i st) (seqD E call ops r)
theorem stepF_stepN{o:Oper}{st:St}:(bnd (jn ops o st.tm) λg=>match g with
  | true=>stepF E call (cls ops o.op).loud (qK ops o.op) o st
  | false=>some { st with tm:=putT st.tm o.dst (.d (.tup [])) })=Y3 E call ops o st:=by
 unfold Y3 effG;cases hg:jn ops o st.tm with
 | none=>rfl
 | some g =>
  cases g with
  | false=>rfl
  | true =>
   simp only[zN];unfold stepF;cases he:effE E call o.op (zc o) st.tm st.hp with
   | none=>rfl
   | some ef =>
    simp only[zN];unfold effChk;cases hc:(ef.ok && ((cls ops o.op).loud || (ef.upd.isNone && (ef.kil.isNone || ef.kil == qK ops o.op)))) with
    | false=>rfl
    | true =>
     simp only[zY];cases hn:ef.new with
     | none=>simp[hn]
     | some b =>
      simp only;cases h1:(o.dst.isSome && zl (zc o) b) with
      | false=>simp
      | true=>simp[hn]
theorem zAL{K:St->Option CR}{r:CR}:∀(L:List (Oper×Nat)) (st:St),YL E call ops (L.map λp=>(p.1,pivot ops p.2)) st K=some r->∃stf,seqD E call ops L st=some stf/\K stf=some r
 | [],st,h=>⟨st,rfl,h⟩
 | (o,i) :: L,st,h=>by
  simp only[List.map_cons,YL] at h;have hstep:∃st1,Q2 E call ops o i st=some st1/\YL E call ops (L.map λp=>(p.1,pivot ops p.2)) st1 K=some r:=by
   unfold Q2;rw[<-stepF_stepN];obtain⟨g,hg,h⟩:=bind_some h;rw[hg];cases g with
   | true =>
    obtain⟨st1,h1,h⟩:=bind_some h;cases hp:pivot ops i with
    | true=>rw[hp] at h1;exact⟨st1,h1,h⟩
    | false=>rw[hp] at h1;exact⟨st1,h1,h⟩
   | false =>
    cases hp:pivot ops i with
    | true=>exact⟨_,rfl,h⟩
    | false=>exact⟨_,rfl,h⟩
  obtain⟨st1,h1,h2⟩:=hstep;obtain⟨stf,h3,h4⟩:=zAL L st1 h2;exact⟨stf,by simp only[seqD,h1,zN,h3],h4⟩
end
end Go.Am
namespace Go.Am
open Go.Proofs
open Go Go.RowKit
section
variable{P:Program}{E:Env}{call:FuncId->List DV->Option CR}{ops:List Oper}
theorem maskOf_spec(acc:List Nat):∀(es:List Edge) (s k:Nat),(es.foldl (λs e=>if Region.binds .any e then s ||| (2 ^ e.on) ||| acc.getD e.on 0 else s) s).testBit k=true ->
  s.testBit k=true\/∃e∈es,Region.binds .any e=true/\(e.on=k\/(acc.getD e.on 0).testBit k=true)
 | [],s,k,h=>.inl h
 | e :: es,s,k,h=>by
  simp only[List.foldl_cons] at h;rcases maskOf_spec acc es _ k h with h | ⟨e',he',h⟩
  ·split at h
   ·rename_i hb;simp only[Nat.testBit_or,Bool.or_eq_true] at h;rcases h with (h | h) | h
    ·exact .inl h
    ·rw[Nat.testBit_two_pow] at h;exact .inr ⟨e,by simp,hb,.inl (by simpa using h)⟩
    ·exact .inr ⟨e,by simp,hb,.inr h⟩
   ·exact .inl h
  ·exact .inr ⟨e',by simp[he'],h⟩
theorem ancGo_spec:∀(r:List Oper) (acc:List Nat),(∃l,qP r acc=acc++l/\l.length=r.length) /\
  ∀j o,r[j]? = some o->∃m,(qP r acc)[acc.length+j]? = some m/\m=maskOf ((qP r acc).take (acc.length+j)) o.after.toList
 | [],acc=>⟨⟨[],by simp[qP],rfl⟩,λj o h=>by simp at h⟩
 | o :: r,acc=>by
  obtain⟨⟨l,hl,hll⟩,hr⟩:=ancGo_spec r (acc++[maskOf acc o.after.toList]);refine⟨⟨maskOf acc o.after.toList :: l,by simp[qP,hl],by simp[hll]⟩,λj o' h=>?_⟩
  simp only[qP];cases j with
  | zero =>
   simp only[List.getElem?_cons_zero,Option.some.injEq] at h;subst h;refine⟨maskOf acc o.after.toList,?_,?_⟩
   ·rw[hl];simp
   ·rw[hl];simp
  | succ j =>
   obtain⟨m,h1,h2⟩:=hr j o' (by simpa using h)
   have e:(acc++[maskOf acc o.after.toList]).length+j=acc.length+(j+1):=by simp;omega
   rw[e] at h1 h2;exact⟨m,h1,h2⟩
theorem getD_take{l:List Nat}{n i:Nat}(h:i<n):(l.take n).getD i 0=l.getD i 0:=by simp[List.getD,List.getElem?_take,h]
theorem anc_done(hb:Y0 ops=true)(done:Nat->Prop)(hcl:∀(j:Nat) o,ops[j]? = some o->done j->∀e∈o.after.toList,Region.binds .any e=true->done e.on) :
  ∀(j:Nat) (o:Oper),ops[j]? = some o->(∀e∈o.after.toList,Region.binds .any e=true->done e.on)->∀k,((qP ops []).getD j 0).testBit k=true->done k:=by
 have back:∀(j:Nat) (o:Oper),ops[j]? = some o->∀e∈o.after.toList,Region.binds .any e=true->e.on<j:=by
  intro j o ho e he hbd;unfold Y0 at hb;have hj:j<ops.length:=(List.getElem?_eq_some_iff.1 ho).1;have hm:(o,j)∈ops.zipIdx:=by rw[List.mem_iff_getElem?];exact⟨j,by simp[List.getElem?_zipIdx,ho]⟩
  have h1:=List.all_eq_true.1 hb (o,j) hm;have h2:=List.all_eq_true.1 h1 e he;simpa[hbd] using h2
 intro j;induction j using Nat.strongRecOn with
 | _ j ih =>
  intro o ho he k hk;obtain⟨m,h1,h2⟩:=(ancGo_spec ops []).2 j o ho;simp only[List.length_nil,Nat.zero_add] at h1 h2;have hm:(qP ops []).getD j 0=m:=by simp[List.getD,h1]
  rw[hm,h2] at hk;unfold maskOf at hk;rcases maskOf_spec _ _ 0 k hk with h | ⟨e,hee,hbd,h⟩
  ·simp at h
  ·have hlt:=back j o ho e hee hbd;have hd:=he e hee hbd;rcases h with rfl | h
   ·exact hd
   ·rw[getD_take hlt] at h;have hj:j<ops.length:=(List.getElem?_eq_some_iff.1 ho).1;have hoe:ops[e.on]? = some ops[e.on]:=List.getElem?_eq_getElem (by omega)
    exact ih e.on hlt _ hoe (hcl _ _ hoe hd) k h
def Inv(ops:List Oper)(L:List (Oper×Nat))(st:St):Prop :=
 ∀s∈anews ops,(∀p∈L,p.1.dst=some s->freeRef s st)/\∀p∈L,qK ops p.1.op=some s->onlyAt s st
structure Stat(ops:List Oper):Prop where
 plain:∀o∈ops,(owns o.op=true->o.dst.isSome=true)/\∀d,o.dst=some d->d ∉ looks ops o
 back:Y0 ops=true
 ord:∀(i j:Nat) a b,i<j->ops[i]? = some a->ops[j]? = some b->(∀d,a.dst=some d->b.dst≠some d)/\(clash ops a b=false\/((qP ops []).getD j 0).testBit i=true)
theorem stat_of(h:okDraw ops=true):Stat ops:=by
 unfold okDraw at h;simp only[Bool.and_eq_true] at h;obtain⟨⟨h1,h2⟩,h3⟩:=h;refine⟨λo ho=>?_,h2,λi j a b hij ha hb=>?_⟩
 ·unfold plainOps at h1;have:=List.all_eq_true.1 h1 o ho;simp only[Bool.and_eq_true,Bool.or_eq_true,Bool.not_eq_true'] at this;refine⟨λhx=>this.1.resolve_left (by simp[hx]),λd hd=>?_⟩
  have h4:=this.2;rw[hd] at h4;simpa using h4
 ·have hj:j<ops.length:=(List.getElem?_eq_some_iff.1 hb).1;have h4:=List.all_eq_true.1 h3 j (List.mem_range.2 hj);have h5:=List.all_eq_true.1 h4 i (List.mem_range.2 hij);rw[ha,hb] at h5;simp only[Bool.and_eq_true,Bool.or_eq_true,Bool.not_eq_true'] at h5;refine⟨λd hd hd2=>?_,h5.2⟩
  have:=h5.1;rw[hd,hd2] at this;simp at this
theorem anews_spec{s:Nat}(h:s∈anews ops):∃(i:Nat) (o:Oper),ops[i]? = some o/\pivot ops i=false/\owns o.op=true/\o.dst=some s:=by
 unfold anews at h;obtain⟨⟨o,i⟩,hm,h⟩:=List.mem_filterMap.1 h;simp only at h;obtain⟨k,hk⟩:=List.mem_iff_getElem?.1 hm;have hoi:ops[i]? = some o:=by simp only[List.getElem?_zipIdx,Option.map_eq_some_iff] at hk;obtain⟨x,hx,e⟩:=hk;simp only[Prod.mk.injEq] at e;obtain⟨rfl,rfl⟩:=e;simpa using hx
 split at h
 ·cases h
 ·rename_i hp;split at h
  ·exact⟨i,o,hoi,by simpa using hp,by assumption,h⟩
  ·cases h
theorem mem_anews{i:Nat}{o:Oper}(ho:ops[i]? = some o)(hp:pivot ops i=false)(hw:owns o.op=true){d:Tmp}(hd:o.dst=some d):d∈anews ops:=by
 unfold anews;refine List.mem_filterMap.2 ⟨(o,i),?_,by simp[hp,hw,hd]⟩
 rw[List.mem_iff_getElem?];exact⟨i,by simp[List.getElem?_zipIdx,ho]⟩
theorem Stat.uniq(hs:Stat ops){i j:Nat}{a b:Oper}(ha:ops[i]? = some a)(hb:ops[j]? = some b){d:Tmp}(da:a.dst=some d)(db:b.dst=some d):i=j:=by
 rcases Nat.lt_trichotomy i j with h | h | h
 ·exact absurd db ((hs.ord i j a b h ha hb).1 d da)
 ·exact h
 ·exact absurd da ((hs.ord j i b a h hb ha).1 d db)
theorem Inv.know(hs:Stat ops){L:List (Oper×Nat)}{st:St}(hI:Inv ops L st){o:Oper}{i:Nat}(hm:(o,i)∈L)(ho:ops[i]? = some o)(hp:pivot ops i=false):Know ops o st:=by
 refine⟨λhw=>?_,λt ht=>?_⟩
 ·obtain⟨d,hd⟩:=Option.isSome_iff_exists.1 ((hs.plain o (List.mem_of_getElem? ho)).1 hw);have:zc o=d:=by unfold zc;rw[hd];rfl
  rw[this];exact(hI d (mem_anews ho hp hw hd)).1 (o,i) hm hd
 ·have hpr:=(zBL ht).2.2;unfold priv at hpr;simp only[Bool.and_eq_true] at hpr;exact(hI t (by simpa using hpr.1)).2 (o,i) hm ht
theorem step_off(hs:Stat ops){o:Oper}{i:Nat}(ho:ops[i]? = some o){st st1:St}(h:Q2 E call ops o i st=some st1) :
  ∃(ef:Eff) (st0:St),(st0=st\/st0=clear (zc o) st)/\st1=zo ef o.dst (zc o) st0/\(∀b,ef.new=some b->o.dst.isSome=true/\zl (zc o) b=true)/\(∀b k,ef.upd=some (b,k)->owns o.op=false) /\
   (pivot ops i=false->st0=st) /\
   ∀s,o.dst≠some s->(∀(t:Nat) (v:AV),t∈looks ops o->st.tm[t]? = some v->noRef s v=true)->(∀b ob,slot st.hp b=some ob->zl s ob.blk=true) ->
    (o.dst=none\/noRef s ef.v=true)/\(∀k,ef.new=some k->zl s k=true)/\(∀b k,ef.upd=some (b,k)->zl s k=true)/\¬ef.touch (zc o) s:=by
 have hown:=(hs.plain o (List.mem_of_getElem? ho)).1;have wr:∀{ef:Eff},effE E call o.op (zc o) st.tm st.hp=some ef->∀b k,ef.upd=some (b,k)->owns o.op=false:=by
  intro ef he b k hu;cases hw:owns o.op with
  | false=>rfl
  | true =>
   have hn:jx o.op=false:=by
    cases hop:o.op <;> rw[hop] at hw <;> simp only[owns] at hw <;> try (simp at hw;done)
    all_goals try rfl
    rename_i c;simp only[jx];split
    ·rename_i hc;rw[hc] at hw;simp at hw
    ·rfl
   rw[(QT he).upd hn] at hu;cases hu
 have key:∀{ef:Eff},effG E call ops o st=some ef->∀s,o.dst≠some s->(∀(t:Nat) (v:AV),t∈looks ops o->st.tm[t]? = some v->noRef s v=true)->(∀b ob,slot st.hp b=some ob->zl s ob.blk=true) ->
    (o.dst=none\/noRef s ef.v=true)/\(∀k,ef.new=some k->zl s k=true)/\(∀b k,ef.upd=some (b,k)->zl s k=true)/\¬ef.touch (zc o) s:=by
  intro ef hg s hd hl hh;refine⟨?_,?_,?_,Jy hg hd hown hl hh⟩
  ·rcases untouched hg hd hown hl hh with h | h
   ·exact .inr h.v
   ·exact .inl h.1
  ·rcases untouched hg hd hown hl hh with h | h
   ·exact h.new
   ·intro k hk;rw[h.2.1] at hk;cases hk
  ·rcases untouched hg hd hown hl hh with h | h
   ·exact λb k hu=>(h.upd b k hu).2
   ·exact λb k hu=>(h.2.2.1 b k hu).2
 have keyE:∀{ef:Eff},effE E call o.op (zc o) st.tm st.hp=some ef->(∀b,ef.new=some b->o.dst.isSome=true/\zl (zc o) b=true)->∀s,o.dst≠some s->(∀(t:Nat) (v:AV),t∈looks ops o->st.tm[t]? = some v->noRef s v=true)->(∀b ob,slot st.hp b=some ob->zl s ob.blk=true) ->
    (o.dst=none\/noRef s ef.v=true)/\(∀k,ef.new=some k->zl s k=true)/\(∀b k,ef.upd=some (b,k)->zl s k=true)/\¬ef.touch (zc o) s:=by
  intro ef he hnw s hd hl hh;cases hdst:o.dst with
  | some d =>
   have hne:s≠zc o:=by unfold zc;rw[hdst];simp;rintro rfl;exact hd hdst
   have ho:=eff_off he hne (Yz hl) hh;refine⟨.inr ho.v,ho.new,λb k hu=>(ho.upd b k hu).2,?_⟩
   rintro (a | ⟨k,a⟩ | a | ⟨a,b⟩)
   ·exact ho.frz a
   ·exact(ho.upd s k a).1 rfl
   ·exact ho.kil a
   ·exact hne b
  | none =>
   have hno:owns o.op=false:=by
    cases hx:owns o.op with
    | false=>rfl
    | true=>have:=hown hx;rw[hdst] at this;simp at this
   have hnew:ef.new=none:=by
    cases hn:ef.new with
    | none=>rfl
    | some b=>have:=(hnw b hn).1;rw[hdst] at this;simp at this
   rw[effE_dst hno _ (s+1)] at he;have ho:=eff_off he (by omega) (Yz hl) hh
   refine⟨.inl rfl,λk hk=>by (rw[hnew] at hk;cases hk),λb k hu=>(ho.upd b k hu).2,?_⟩
   rintro (a | ⟨k,a⟩ | a | ⟨a,b⟩)
   ·exact ho.frz a
   ·exact(ho.upd s k a).1 rfl
   ·exact ho.kil a
   ·rw[hnew] at a;simp at a
 unfold Q2 at h;cases hp:pivot ops i with
 | false =>
  rw[hp] at h;simp only at h;unfold Y3 at h;obtain⟨ef,hg,h⟩:=bind_some h;obtain⟨_,h⟩:=zJ h;injection h with h
  refine⟨ef,st,.inl rfl,h.symm,(YY hg).2.2.2,λb k hu=>?_,λ_=>rfl,key hg⟩
  rcases J3 hg with ⟨_,rfl⟩ | ⟨_,he,_⟩
  ·simp at hu
  ·exact wr he b k hu
 | true =>
  rw[hp] at h;simp only at h;obtain⟨g,hg,h⟩:=bind_some h;cases g with
  | false =>
   injection h with h;refine⟨{ v:=.d (.tup []) },st,.inl rfl,h.symm,by simp,by simp,λ_=>rfl,λs hd hl hh=>⟨.inr rfl,by simp,by simp,?_⟩⟩
   rintro (a | ⟨k,a⟩ | a | ⟨a,b⟩) <;> simp at a
  | true =>
   simp only at h;unfold YE at h;obtain⟨ef,he,h⟩:=bind_some h;obtain⟨_,h⟩:=zJ h;cases hn:ef.new with
   | none =>
    rw[hn] at h;injection h with h
    exact⟨ef,st,.inl rfl,h.symm,(λb hb=>by rw[hn] at hb;cases hb),wr he,λ_=>rfl,keyE he (λb hb=>by rw[hn] at hb;cases hb)⟩
   | some b =>
    rw[hn] at h;obtain⟨hgd,h⟩:=zJ h;injection h with h
    simp only[Bool.and_eq_true] at hgd;have hnw:∀b',ef.new=some b'->o.dst.isSome=true/\zl (zc o) b'=true:=λb' hb=>by
     rw[hn] at hb;injection hb with hb;subst hb;exact hgd
    exact⟨ef,_,.inr rfl,h.symm,hnw,wr he,(λhh=>by cases hh),keyE he hnw⟩
theorem Inv.step(hs:Stat ops){L L':List (Oper×Nat)}{st st1:St}(hI:Inv ops L st)(hLo:∀p∈L,ops[p.2]? = some p.1)(hsub:∀p∈L',p∈L){o:Oper}{i:Nat}(hm:(o,i)∈L)(hni:∀o',(o',i) ∉ L')
  (h:Q2 E call ops o i st=some st1):Inv ops L' st1:=by
 have ho:ops[i]? = some o:=hLo _ hm;obtain⟨ef,st0,h0,rfl,hnw,hup,hpv,hoff⟩:=step_off hs ho h;intro s hsa;obtain⟨hf,hon⟩:=hI s hsa;obtain⟨k,ok,hok,hkp,hkw,hkd⟩:=anews_spec hsa;refine⟨λp hp hd=>?_,λp hp hmay=>?_⟩
 ·have hfree:=hf p (hsub p hp) hd;have hne:o.dst≠some s:=λe=>hni p.1 (by
   have:=hs.uniq ho (hLo _ (hsub p hp)) e hd;rw[this];exact hp)
  obtain⟨o1,o2,o3,o4⟩:=hoff s hne (λt v _ hv=>hfree.2.1 t v hv) hfree.2.2
  have hfree0:freeRef s st0:=by
   rcases h0 with rfl | rfl
   ·exact hfree
   ·exact hfree.clear _
  exact pres_free hfree0 o1 o2 o3 o4
 ·have honly:=hon p (hsub p hp) hmay;by_cases he:o.dst=some s
  ·
   have hik:i=k:=hs.uniq ho hok he hkd;subst hik;have hok':o=ok:=Option.some.inj (ho.symm.trans hok);subst hok';have hst:=hpv hkp;subst hst;have hfree:=hf (o,i) hm he;have hsite:zc o=s:=by unfold zc;rw[he];rfl
   refine pres_only hfree.only (.inr (.inl he)) (λb hb=>by rw[<-hsite];exact(hnw b hb).2) λb k hu=>?_
   have:=hup b k hu;rw[hkw] at this;cases this
  ·have honly0:onlyAt s st0:=by
    rcases h0 with rfl | rfl
    ·exact honly
    ·exact honly.clear _
   obtain⟨hc1,hb1,hpr⟩:=zBL hmay;have hpo:=hLo _ (hsub p hp);have hpd:p.1.dst.isSome=true:=(hs.plain p.1 (List.mem_of_getElem? hpo)).1 (by
    unfold baseT at hb1;split at hb1
    ·rename_i c hop;split at hb1
     ·rename_i hcc _;rw[hop];simp[owns,hcc]
     ·cases hb1
    ·cases hb1)
   obtain⟨d,hdd⟩:=Option.isSome_iff_exists.1 hpd;have hnel:s ∉ looks ops o:=by
    refine priv_two hpr (List.mem_of_getElem? hpo) (List.mem_of_getElem? ho) ?_ (baseT_looks hb1);intro e;refine hni p.1 ?_;have:=hs.uniq ho hpo (by rw[<-e];exact hdd) hdd
    rw[this];exact hp
   obtain⟨o1,o2,o3,_⟩:=hoff s he (λt v ht hv=>honly.1 t v (by rintro rfl;exact hnel ht) hv) honly.2
   exact pres_only honly0 (o1.imp id .inr) o2 o3
end
end Go.Am
