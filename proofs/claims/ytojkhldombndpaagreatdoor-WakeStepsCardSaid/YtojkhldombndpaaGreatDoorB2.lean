/- The abstract machine, the contracts of the functions that are walked by hand, and the examples of the document. Part 2. -/
import Derived.Test.YtojkhldombndpaaGreatDoorB1
set_option linter.all false
namespace Go.Am
open Go.Proofs
open Go Go.RowKit
section
variable{P:Program}{E:Env}{S:Nat->Prop}{φ:Nat->Option Nat}{w:World}
def pureOp:Op->Bool
 | .move _ | .assign _ | .pick _ _ _ | .build _ _ | .nilCheck _ | .binOp _ _ _ _ _ | .unOp _ _ _ | .convert _ _ _ | .makeFunc _ _ _ | .slice _ _ _ _ _
 | .fieldAddr _ _ _ | .field _ _ _ | .indexAddr _ _ _ | .index _ _ _ | .extract _ _=>true
 | .call c=>match c.callee with
  | .builtin .max | .builtin .min=>true
  | _=>false
 | _=>false
theorem amap{β:Type}(f:Operand->β)(xs:Array Operand):xs.map f=(xs.toList.map f).toArray:=by apply Array.ext';simp
theorem zAQ{tm:List AV}{a:Act}(he:∀x v,evO E tm x=some v->RAV E.L S φ w v (a.eval x)){o:Option Operand}{v:Option AV}(h:qp E tm o=some v):OptOK E.L S φ w v (o.map a.eval):=by
 cases o with
 | none=>simp[qp] at h;subst h;trivial
 | some x =>
  simp only[qp] at h;obtain⟨y,hy,h⟩:=bind_some h;injection h with h;subst h
  exact he x y hy
theorem foldMax{k:IntKind}:∀(vs:List AV) (us:List Value) (a m:Int),Y7 (λx y=>if y>x then y else x) k a vs=some m->ListOK E.L S φ w vs us ->
  ∀w',(us.foldlM Builtin.max2 (.int k a)).run P w'=.ok (.int k m) w'
 | [],us,a,m,h,hl,w'=>by
  have:us=[]:=List.eq_nil_of_length_eq_zero hl.1;subst this;simp[Y7] at h;subst h;rfl
 | v :: r,us,a,m,h,hl,w'=>by
  cases us with
  | nil=>exact absurd hl.1 (by simp)
  | cons u us =>
   have h0:=hl.2 0 (by simp) (by simp)
   have hr:ListOK E.L S φ w r us:=⟨by simpa using hl.1,λi a b=>hl.2 (i+1) (by simp;omega) (by simp;omega)⟩
   cases v <;> try (simp[Y7] at h;done)
   rename_i x;cases x <;> try (simp[Y7] at h;done)
   rename_i k' b;simp only[Y7] at h;split at h
   case isFalse=>simp at h
   rename_i hk;subst hk;have:=RV.int (show RV E.L S w (.int k b) u from h0)
   subst this;have ih:=foldMax r us _ m h hr w';rw[List.foldlM_cons,Sem.run_bind];simp only[Builtin.max2,Sem.run_pure,Result.andThen_ok];exact ih
theorem foldMin{k:IntKind}:∀(vs:List AV) (us:List Value) (a m:Int),Y7 (λx y=>if y<x then y else x) k a vs=some m->ListOK E.L S φ w vs us ->
  ∀w',(us.foldlM Builtin.min2 (.int k a)).run P w'=.ok (.int k m) w'
 | [],us,a,m,h,hl,w'=>by
  have:us=[]:=List.eq_nil_of_length_eq_zero hl.1;subst this;simp[Y7] at h;subst h;rfl
 | v :: r,us,a,m,h,hl,w'=>by
  cases us with
  | nil=>exact absurd hl.1 (by simp)
  | cons u us =>
   have h0:=hl.2 0 (by simp) (by simp)
   have hr:ListOK E.L S φ w r us:=⟨by simpa using hl.1,λi a b=>hl.2 (i+1) (by simp;omega) (by simp;omega)⟩
   cases v <;> try (simp[Y7] at h;done)
   rename_i x;cases x <;> try (simp[Y7] at h;done)
   rename_i k' b;simp only[Y7] at h;split at h
   case isFalse=>simp at h
   rename_i hk;subst hk;have:=RV.int (show RV E.L S w (.int k b) u from h0)
   subst this;have ih:=foldMin r us _ m h hr w';rw[List.foldlM_cons,Sem.run_bind];simp only[Builtin.min2,Sem.run_pure,Result.andThen_ok];exact ih
theorem maxE_sound{vs:List AV}{us:List Value}{ef:Eff}(h:maxE vs=some ef)(hl:ListOK E.L S φ w vs us)(ts:Array TypeId)(t:TypeId):zAB P E S φ w (Builtin.max_ ts t us.toArray) ef:=by
 unfold maxE at h;split at h
 case h_2=>simp at h
 rename_i k a r;obtain⟨m,hm,h⟩:=bind_some h;simp[zj] at h;subst h;cases us with
 | nil=>exact absurd hl.1 (by simp)
 | cons u us =>
  have h0:=hl.2 0 (by simp) (by simp)
  have hr:ListOK E.L S φ w r us:=⟨by simpa using hl.1,λi a b=>hl.2 (i+1) (by simp;omega) (by simp;omega)⟩
  have:=RV.int (show RV E.L S w (.int k a) u from h0)
  subst this;exact⟨_,.int k m,rfl,λw'=>by simpa[Builtin.max_] using foldMax r us a m hm hr w',RV.mkInt _ _⟩
theorem minE_sound{vs:List AV}{us:List Value}{ef:Eff}(h:minE vs=some ef)(hl:ListOK E.L S φ w vs us)(ts:Array TypeId)(t:TypeId):zAB P E S φ w (Builtin.min_ ts t us.toArray) ef:=by
 unfold minE at h;split at h
 case h_2=>simp at h
 rename_i k a r;obtain⟨m,hm,h⟩:=bind_some h;simp[zj] at h;subst h;cases us with
 | nil=>exact absurd hl.1 (by simp)
 | cons u us =>
  have h0:=hl.2 0 (by simp) (by simp)
  have hr:ListOK E.L S φ w r us:=⟨by simpa using hl.1,λi a b=>hl.2 (i+1) (by simp;omega) (by simp;omega)⟩
  have:=RV.int (show RV E.L S w (.int k a) u from h0)
  subst this;exact⟨_,.int k m,rfl,λw'=>by simpa[Builtin.min_] using foldMin r us a m hm hr w',RV.mkInt _ _⟩
theorem asB_pick{v:AV}{b:Bool}(h:Am.asB v=some b){u:Value}(hu:RAV E.L S φ w v u):u=.bool b:=by
 unfold Am.asB at h;split at h
 ·injection h with h;subst h;exact RV.bool hu
 ·simp at h
theorem pure_sound(hD:DOK P E){o:Oper}{tm:List AV}{a:Act}(he:∀x v,evO E tm x=some v->RAV E.L S φ w v (a.eval x)){call:FuncId->List DV->Option CR}{dst:Nat}{hp:List (Option OB)}{ef:Eff}
  (hpo:pureOp o.op=true) (h:effE E call o.op dst tm hp=some ef) :
  ∃v u,ef={ v }/\(∀w',(execOp a.eval o).run P w'=.ok (.value u) w')/\RAV E.L S φ w v u:=by
 have fin:∀{s:Sem Value},zAB P E S φ w s ef->(∀w',(execOp a.eval o).run P w'=(do pure (.value (<-s)):Sem Next).run P w') ->
   ∃v u,ef={ v }/\(∀w',(execOp a.eval o).run P w'=.ok (.value u) w')/\RAV E.L S φ w v u:=by
  intro s ⟨v,u,h1,h2,h3⟩ h4;exact⟨v,u,h1,λw'=>by rw[h4];simp[h2 w'],h3⟩
 have one:∀{x:Operand},bnd (evO E tm x) zj=some ef->(∀w',(execOp a.eval o).run P w'=.ok (.value (a.eval x)) w') ->
   ∃v u,ef={ v }/\(∀w',(execOp a.eval o).run P w'=.ok (.value u) w')/\RAV E.L S φ w v u:=by
  intro x h h4;obtain⟨v,hv,h⟩:=bind_some h;simp[zj] at h;subst h;exact⟨v,_,rfl,h4,he _ _ hv⟩
 cases ho:o.op <;> simp only[ho,pureOp] at hpo <;> try (simp at hpo;done)
 all_goals simp only[ho,effE] at h
 case move x=>exact one h λw'=>by simp[execOp,ho]
 case assign x=>exact one h λw'=>by simp[execOp,ho]
 case pick c x y =>
  obtain⟨v,hv,h⟩:=bind_some h;obtain⟨b,hb,h⟩:=bind_some h;have hc:=asB_pick hb (he _ _ hv);cases b
  ·exact one h λw'=>by simp[execOp,ho,hc,asBool]
  ·exact one h λw'=>by simp[execOp,ho,hc,asBool]
 case build t ps =>
  obtain⟨vs,hv,h⟩:=bind_some h;obtain⟨v,u,h1,h2,h3⟩:=buildE_sound hD h (qV he _ _ hv);refine⟨v,.agg u,h1,λw'=>?_,h3⟩
  have:=run_build (P:=P) w' t (ps.map λ(i,x)=>(i,a.eval x)) u (by simpa using h2)
  simp only[execOp,ho,Sem.run_bind];rw[this];simp
 case nilCheck x =>
  obtain⟨y,hv,h⟩:=bind_some h;have hy:y≠.undef:=by rintro rfl;simp[YW] at h
  obtain⟨v,h1,⟨a1,a2,a3,a4⟩,h3⟩:=nilCheckE_sound h (he _ _ hv) hy;refine⟨v,_,h1,λw'=>?_,h3⟩
  simp only[execOp,ho];revert a1 a2 a3 a4;generalize a.eval x=u;intro a1 a2 a3 a4;cases u with
  | pointer p=>cases p with
   | none=>exact absurd rfl a1
   | some p=>simp
  | nilIface=>exact absurd rfl a2
  | nilFunc=>exact absurd rfl a3
  | func f x y=>cases f with
   | method n=>exact absurd rfl (a4 _ _ _)
   | _=>simp
  | _=>simp
 case binOp op t x y _ =>
  obtain⟨u,hu,h⟩:=bind_some h;obtain⟨v,hv,h⟩:=bind_some h;split at h
  case h_2=>simp at h
  rename_i x' y';obtain⟨hif,h⟩:=zJ h;obtain⟨r,hr,h⟩:=bind_some h;simp[zj] at h;subst h;obtain⟨h1,h2⟩:=binE_sound hD hif hr (he _ _ hu) (he _ _ hv);refine⟨.d r,toV r,rfl,λw'=>?_,h2⟩
  simp only[execOp,ho];rw[Sem.run_bind,h1 w'];simp
 case unOp op t x =>
  obtain⟨u,hu,h⟩:=bind_some h;split at h
  case h_2=>simp at h
  obtain⟨r,hr,h⟩:=bind_some h;simp[zj] at h;subst h;obtain⟨h1,h2⟩:=unD_sound (P:=P) hr (he _ _ hu);refine⟨.d r,toV r,rfl,λw'=>?_,h2⟩
  simp only[execOp,ho];rw[Sem.run_bind,h1 w'];simp
 case convert s t x =>
  obtain⟨u,hu,h⟩:=bind_some h;split at h
  case h_2=>simp at h
  obtain⟨r,hr,h⟩:=bind_some h;simp[zj] at h;subst h;obtain⟨h1,h2⟩:=convD_sound hD hr (he _ _ hu);refine⟨.d r,toV r,rfl,λw'=>?_,h2⟩
  simp only[execOp,ho];rw[Sem.run_bind,h1 w'];simp
 case makeFunc fn fs cs =>
  cases fn <;> try (simp[effE] at h;done)
  rename_i f;simp only[effE] at h;obtain⟨x,hx,h⟩:=bind_some h;obtain⟨y,hy,h⟩:=bind_some h;obtain⟨hs,h⟩:=zJ h;simp only[Bool.and_eq_true] at hs;simp[zj] at h;subst h;refine⟨_,_,rfl,λw'=>?_,mkFn_sound (evL_ok he hx) (evL_ok he hy) hs.1 hs.2⟩
  simp only[execOp,ho,Instr.makeFunc,<-amap];simp
 case slice t x lo hi mx =>
  obtain⟨x',hx,h⟩:=bind_some h;obtain⟨lo',hlo,h⟩:=bind_some h;obtain⟨hi',hhi,h⟩:=bind_some h;obtain⟨mx',hmx,h⟩:=bind_some h;exact fin (sliceE_sound hD h (he _ _ hx) (zAQ he hlo) (zAQ he hhi) (zAQ he hmx)) λw'=>by simp only[execOp,ho]
 case fieldAddr t x i =>
  obtain⟨x',hx,h⟩:=bind_some h;exact fin (fieldAddrE_sound hD h (he _ _ hx)) λw'=>by simp only[execOp,ho]
 case field t x i =>
  obtain⟨x',hx,h⟩:=bind_some h;exact fin (fieldE_sound hD h (he _ _ hx)) λw'=>by simp only[execOp,ho]
 case indexAddr t x i =>
  obtain⟨x',hx,h⟩:=bind_some h;obtain⟨i',hi,h⟩:=bind_some h;exact fin (indexAddrE_sound hD h (he _ _ hx) (he _ _ hi)) λw'=>by simp only[execOp,ho]
 case index t x i =>
  obtain⟨x',hx,h⟩:=bind_some h;obtain⟨i',hi,h⟩:=bind_some h;exact fin (indexE_sound hD h (he _ _ hx) (he _ _ hi)) λw'=>by simp only[execOp,ho]
 case extract x i =>
  obtain⟨x',hx,h⟩:=bind_some h;exact fin (extractE_sound h (he _ _ hx)) λw'=>by simp only[execOp,ho]
 case call c =>
  obtain⟨vs,hv,h⟩:=bind_some h;have hl:=evL_ok he hv;cases hc:c.callee with
  | value f=>simp[hc] at hpo
  | invoke r m=>simp[hc] at hpo
  | builtin b =>
   simp only[hc] at h hpo;cases b <;> try (simp at hpo;done)
   ·exact fin (maxE_sound h hl c.argTypes o.type) λw'=>by simp only[execOp,ho,resolve,hc,<-amap];simp[invoke,builtin]
   ·exact fin (minE_sound h hl c.argTypes o.type) λw'=>by simp only[execOp,ho,resolve,hc,<-amap];simp[invoke,builtin]
end
end Go.Am
namespace Go.Am
open Go.Proofs
open Go Go.RowKit
structure Rel(E:Env)(base:Nat)(S:Nat->Prop)(φ:Nat->Option Nat)(st:St)(a:Act)(w:World):Prop where
 glob:GlobOK E S w
 tm:TmOK E.L S φ w st.tm a
 blk:∀b ob,slot st.hp b=some ob->∃cb,φ b=some cb/\base<=cb/\RB E.L S φ w ob.blk cb/\(S cb ↔ ob.fz=true)
 inj:∀b b' ob ob' cb,slot st.hp b=some ob->slot st.hp b'=some ob'->φ b=some cb->φ b'=some cb->b=b'
 lt:∀b,S b->b<w.heap.size
 base:base<=w.heap.size
 dfr:a.defers=[]
structure Grow(base:Nat)(S S':Nat->Prop)(w w':World):Prop where
 below:Below base w w'
 sub:∀b,S b->S' b
 new:∀b,S' b->S b\/base<=b
 kept:∀b,S b->w'.heap[b]? = w.heap[b]?
theorem Grow.refl{base:Nat}{S:Nat->Prop}{w:World}:Grow base S S w w:=⟨Below.refl _ _,λ_ h=>h,λ_ h=>.inl h,λ_ _=>rfl⟩
theorem Grow.trans{base:Nat}{S S' S'':Nat->Prop}{w w' w'':World}(h:Grow base S S' w w')(k:Grow base S' S'' w' w''):Grow base S S'' w w'' :=
 ⟨h.below.trans k.below,λb hb=>k.sub b (h.sub b hb),λb hb=>(k.new b hb).elim (h.new b) .inr,λb hb=>(k.kept b (h.sub b hb)).trans (h.kept b hb)⟩
section
variable{P:Program}{E:Env}{base:Nat}{S S':Nat->Prop}{φ:Nat->Option Nat}{st:St}{a:Act}{w w':World}
def upd(φ:Nat->Option Nat)(s:Nat)(x:Option Nat):Nat->Option Nat:=λb=>if b=s then x else φ b
theorem zAq{hp:List (Option OB)}{s:Nat}{x:Option OB}{ob:OB}(h:slot (hp.set s x) s=some ob):x=some ob:=by
 unfold slot at h;by_cases hs:s<hp.length
 ·rw[List.getElem?_set_self hs] at h;cases x with
  | none=>simp at h
  | some y=>simpa using h
 ·rw[List.set_eq_of_length_le (by omega),List.getElem?_eq_none (by omega)] at h
  simp at h
theorem J9{hp:List (Option OB)}{s b:Nat}{x:Option OB}(h:b≠s):slot (hp.set s x) b=slot hp b:=by unfold slot;rw[List.getElem?_set_ne (Ne.symm h)]
theorem Jp{hp:List (Option OB)}{s b:Nat}{x:Option OB}{ob:OB}(h:slot (hp.set s x) b=some ob):(b=s/\x=some ob)\/(b≠s/\slot hp b=some ob):=by
 by_cases hb:b=s
 ·subst hb;exact .inl ⟨rfl,zAq h⟩
 ·rw[J9 hb] at h;exact .inr ⟨hb,h⟩
theorem GlobOK.mono(h:GlobOK E S w)(hS:∀b,S b->S' b)(hw:∀b,S b->w'.heap[b]? = w.heap[b]?):GlobOK E S' w' :=
 ⟨λg x hg=>(h.val g x hg).mono hS hw,λg cs hg=>⟨hS _ (h.tab g cs hg).1,by rw[hw _ (h.tab g cs hg).1];exact(h.tab g cs hg).2⟩⟩
theorem TmOK.mono{φ':Nat->Option Nat}{L:Nat->List Nat}{tm:List AV}(h:TmOK L S φ w tm a)(k:Keep S S' φ φ' w w'):TmOK L S' φ' w' tm a:=λt v hv=>by obtain⟨u,hu,hr⟩:=h t v hv;exact⟨u,hu,hr.mono k⟩
theorem TmOK.put{L:Nat->List Nat}{tm:List AV}(h:TmOK L S φ w tm a)(dst:Option Tmp){v:AV}{u:Value}(hv:RAV L S φ w v u):TmOK L S φ w (putT tm dst v) (a.put dst u):=by
 cases dst with
 | none=>exact h
 | some d =>
  intro t x hx;simp only[putT] at hx;by_cases ht:t=d
  ·subst ht;have hlt:t<tm.length:=by have:=(List.getElem?_eq_some_iff.1 hx).1;simpa using this
   rw[List.getElem?_set_self hlt] at hx;injection hx with hx;subst hx
   obtain⟨u',hu',_⟩:=h t tm[t] (List.getElem?_eq_getElem hlt);refine⟨u,?_,hv⟩;have hs:t<a.tmps.size:=(Array.getElem?_eq_some_iff.1 hu').1;simp[Act.put,Array.getElem?_setIfInBounds,hs]
  ·rw[List.getElem?_set_ne (Ne.symm ht)] at hx;obtain⟨u',hu',hr⟩:=h t x hx;exact⟨u',by simp[Act.put,Array.getElem?_setIfInBounds_ne (Ne.symm ht),hu'],hr⟩
theorem put_defers(a:Act)(dst:Option Tmp)(u:Value):(a.put dst u).defers=a.defers:=by cases dst <;> rfl
theorem Rel.put(h:Rel E base S φ st a w)(dst:Option Tmp){v:AV}{u:Value}(hv:RAV E.L S φ w v u):Rel E base S φ { st with tm:=putT st.tm dst v } (a.put dst u) w :=
 ⟨h.glob,h.tm.put dst hv,h.blk,h.inj,h.lt,h.base,by rw[put_defers];exact h.dfr⟩
theorem Rel.ev(h:Rel E base S φ st a w)(x:Operand)(v:AV)(hx:evO E st.tm x=some v):RAV E.L S φ w v (a.eval x) :=
 evO_sound hx (λt v _ hv=>h.tm t v hv) h.glob
def RoomKeep(w w':World)(cb:Nat):Prop:=∀n,Room w cb n->Room w' cb n
theorem RoomKeep.of{cb:Nat}(h:w'.heap[cb]? = w.heap[cb]?):RoomKeep w w' cb:=λn ⟨cs,t,h1,h2⟩=>⟨cs,t,h.trans h1,h2⟩
theorem Room.lt{cb n:Nat}(h:Room w cb n):cb<w.heap.size:=by obtain⟨cs,t,h1,_⟩:=h;exact(Array.getElem?_eq_some_iff.1 h1).1
structure But(cb:Nat)(w w':World):Prop where
 os:w'.os=w.os
 tape:w'.tape=w.tape
 output:w'.output=w.output
 size:w.heap.size<=w'.heap.size
 block:∀k,k<w.heap.size->k≠cb->w'.heap[k]? = w.heap[k]?
 room:RoomKeep w w' cb
theorem But.below{cb:Nat}(h:But cb w w')(hb:base<=w.heap.size)(hc:base<=cb):Below base w w' :=
 ⟨h.os,h.tape,h.output,h.size,λk hk=>h.block k (by omega) (by omega)⟩
theorem But.keep{cb:Nat}(h:But cb w w')(hlt:∀b,S b->b<w.heap.size)(hS:¬S cb):Keep S S φ φ w w' :=
 ⟨λ_ h=>h,λb hb=>h.block b (hlt b hb) (by rintro rfl;exact hS hb),λ_ _ h=>h,λb cb' n _ hr=>by
  by_cases e:cb'=cb
  ·subst e;exact h.room n hr
  ·exact RoomKeep.of (h.block cb' hr.lt e) n hr⟩
theorem But.grow{cb:Nat}(h:But cb w w')(hlt:∀b,S b->b<w.heap.size)(hS:¬S cb)(hb:base<=w.heap.size)(hc:base<=cb):Grow base S S w w' :=
 ⟨h.below hb hc,λ_ h=>h,λ_ h=>.inl h,λb hb=>h.block b (hlt b hb) (by rintro rfl;exact hS hb)⟩
theorem But.alloc(w:World)(o:Obj)(cb:Nat):But cb w (w.alloc o) :=
 ⟨rfl,rfl,rfl,by simp,λk hk _=>Below.heap_alloc _ _ _ hk,RoomKeep_alloc cb⟩
where RoomKeep_alloc (cb:Nat):RoomKeep w (w.alloc o) cb:=λn hr=>RoomKeep.of (Below.heap_alloc _ _ _ hr.lt) n hr
theorem But.drew(w:World)(cb:Nat):But cb w w.drew:=⟨rfl,rfl,rfl,Nat.le_refl _,λ_ _ _=>rfl,λ_ h=>h⟩
theorem But.trans{cb:Nat}{w'':World}(h:But cb w w')(k:But cb w' w''):But cb w w'' :=
 ⟨k.os.trans h.os,k.tape.trans h.tape,k.output.trans h.output,Nat.le_trans h.size k.size,λi hi hne=>(k.block i (by have:=h.size;omega) hne).trans (h.block i hi hne),λn hr=>k.room n (h.room n hr)⟩
theorem Rel.new(h:Rel E base S φ st a w){s cb:Nat}{blk:Blk}(hφ:φ s=none)(hb:base<=cb)(hS:¬S cb)(hw:But cb w w')
  (hsl:∀b ob,slot st.hp b=some ob->φ b≠some cb) (hr:RB E.L S (upd φ s (some cb)) w' blk cb) :
  Rel E base S (upd φ s (some cb)) { st with hp:=st.hp.set s (some ⟨false,blk⟩) } a w':=by
 have k0:Keep S S φ φ w w':=hw.keep h.lt hS;have k:Keep S S φ (upd φ s (some cb)) w w':=⟨k0.sub,k0.heap,λb c hc=>by
  unfold upd;rw[if_neg (by rintro rfl;rw[hφ] at hc;cases hc)];exact hc,k0.room⟩
 refine⟨h.glob.mono k.sub k.heap,h.tm.mono k,λb ob hob=>?_,λb b' ob ob' c h1 h2 e1 e2=>?_,λb hb=>Nat.lt_of_lt_of_le (h.lt b hb) hw.size,Nat.le_trans h.base hw.size,h.dfr⟩
 ·rcases Jp hob with ⟨rfl,e⟩ | ⟨hne,e⟩
  ·injection e with e;subst e
   exact⟨cb,by simp[upd],hb,hr,by simp[hS]⟩
  ·obtain⟨c,hc,h1,h2,h3⟩:=h.blk b ob e;have hcc:c≠cb:=by rintro rfl;exact hsl b ob e hc
   exact⟨c,k.phi b c hc,h1,h2.mono k (hw.block c h2.lt hcc),h3⟩
 ·rcases Jp h1 with ⟨rfl,_⟩ | ⟨n1,s1⟩ <;> rcases Jp h2 with ⟨rfl,_⟩ | ⟨n2,s2⟩
  ·rfl
  ·simp only[upd,if_true,if_neg n2] at e1 e2;injection e1 with e1;subst e1
   exact absurd e2 (hsl _ _ s2)
  ·simp only[upd,if_true,if_neg n1] at e1 e2;injection e2 with e2;subst e2
   exact absurd e1 (hsl _ _ s1)
  ·simp only[upd,if_neg n1,if_neg n2] at e1 e2;exact h.inj b b' ob ob' c s1 s2 e1 e2
theorem Rel.write(h:Rel E base S φ st a w){s cb:Nat}{blk blk0:Blk}(hs:slot st.hp s=some ⟨false,blk0⟩)(hφ:φ s=some cb)(hw:But cb w w')(hr:RB E.L S φ w' blk cb) :
  Rel E base S φ { st with hp:=st.hp.set s (some ⟨false,blk⟩) } a w':=by
 obtain⟨c,hc,hb,_,hS⟩:=h.blk s _ hs;rw[hφ] at hc;injection hc with hc;subst hc
 have hS:¬S cb:=λhh=>by simpa using hS.1 hh
 have k:Keep S S φ φ w w':=hw.keep h.lt hS;refine⟨h.glob.mono k.sub k.heap,h.tm.mono k,λb ob hob=>?_,λb b' ob ob' c h1 h2 e1 e2=>?_,λb hb=>Nat.lt_of_lt_of_le (h.lt b hb) hw.size,Nat.le_trans h.base hw.size,h.dfr⟩
 ·rcases Jp hob with ⟨rfl,e⟩ | ⟨hne,e⟩
  ·injection e with e;subst e
   exact⟨cb,hφ,hb,hr,by simp[hS]⟩
  ·obtain⟨c,hc,h1,h2,h3⟩:=h.blk b ob e;have hcc:c≠cb:=by rintro rfl;exact hne (h.inj b s _ _ _ e hs hc hφ)
   exact⟨c,hc,h1,h2.mono k (hw.block c h2.lt hcc),h3⟩
 ·have key:∀{x:Nat} {o:OB},slot (st.hp.set s (some ⟨false,blk⟩)) x=some o->∃o',slot st.hp x=some o':=by
   intro x o hx;rcases Jp hx with ⟨rfl,_⟩ | ⟨_,hx⟩
   ·exact⟨_,hs⟩
   ·exact⟨_,hx⟩
  obtain⟨o1,h1⟩:=key h1;obtain⟨o2,h2⟩:=key h2;exact h.inj b b' o1 o2 c h1 h2 e1 e2
theorem Rel.drop(h:Rel E base S φ st a w)(s:Nat):Rel E base S φ { st with hp:=st.hp.set s none } a w:=by
 have key:∀{x:Nat} {o:OB},slot (st.hp.set s none) x=some o->x≠s/\slot st.hp x=some o:=by
  intro x o hx;rcases Jp hx with ⟨rfl,e⟩ | hx
  ·cases e
  ·exact hx
 exact⟨h.glob,h.tm,λb ob hob=>h.blk b ob (key hob).2,λb b' ob ob' c h1 h2 e1 e2=>h.inj b b' ob ob' c (key h1).2 (key h2).2 e1 e2,h.lt,h.base,h.dfr⟩
theorem Rel.world(h:Rel E base S φ st a w)(g:Grow base S S' w w')(hlt:∀b,S' b->b<w'.heap.size)(hown:∀b,b<w.heap.size->¬S b->¬S' b)
  (hblk:∀b,b<w.heap.size->w'.heap[b]? = w.heap[b]?):Rel E base S' φ st a w':=by
 have k:Keep S S' φ φ w w':=⟨g.sub,g.kept,λ_ _ h=>h,λb cb n _ hr=>RoomKeep.of (hblk cb hr.lt) n hr⟩
 refine⟨h.glob.mono k.sub k.heap,h.tm.mono k,λb ob hob=>?_,h.inj,hlt,Nat.le_trans h.base g.below.size,h.dfr⟩
 obtain⟨c,hc,h1,h2,h3⟩:=h.blk b ob hob;refine⟨c,hc,h1,h2.mono k (hblk c h2.lt),⟨λhh=>h3.1 (Classical.byContradiction λhn=>hown c h2.lt hn hh),λhh=>g.sub _ (h3.2 hh)⟩⟩
theorem Rel.freeze1(h:Rel E base S φ st a w)(b:Nat):∃S',Rel E base S' φ { st with hp:=Am.freeze1 st.hp b } a w/\Grow base S S' w w/\(∀ob,slot st.hp b=some ob->∀cb,φ b=some cb->S' cb) /\
  ∀x,S' x->S x\/∃ob,slot st.hp b=some ob/\φ b=some x:=by
 unfold Am.freeze1;cases hs:slot st.hp b with
 | none=>exact⟨S,h,Grow.refl,(λob hob=>by cases hob),λx hx=>.inl hx⟩
 | some ob =>
  obtain⟨cb,hcb,hbase,hrb,hS⟩:=h.blk b ob hs;let S':Nat->Prop:=λx=>S x\/x=cb
  have k:Keep S S' φ φ w w:=⟨λ_ h=>.inl h,λ_ _=>rfl,λ_ _ h=>h,λ_ _ _ _ h=>h⟩
  refine⟨S',⟨h.glob.mono k.sub k.heap,h.tm.mono k,λx o hx=>?_,λx x' o o' c h1 h2 e1 e2=>?_,λx hx=>?_,h.base,h.dfr⟩,⟨Below.refl _ _,k.sub,λx hx=>?_,λ_ _=>rfl⟩,λo ho c hc=>?_,λx hx=>?_⟩
  ·rcases Jp hx with ⟨rfl,e⟩ | ⟨hne,hx⟩
   ·injection e with e;subst e
    exact⟨cb,hcb,hbase,hrb.mono k rfl,by simp[S']⟩
   ·obtain⟨c,hc,h1,h2,h3⟩:=h.blk x o hx;refine⟨c,hc,h1,h2.mono k rfl,⟨λhh=>hh.elim h3.1 λe=>?_,λhh=>.inl (h3.2 hh)⟩⟩
    subst e;exact absurd (h.inj x b _ _ _ hx hs hc hcb) hne
  ·have key:∀{y:Nat} {o:OB},slot (st.hp.set b (some { ob with fz:=true })) y=some o->∃o',slot st.hp y=some o':=by
    intro y o hy;rcases Jp hy with ⟨rfl,_⟩ | ⟨_,hy⟩
    ·exact⟨_,hs⟩
    ·exact⟨_,hy⟩
   obtain⟨o1,h1⟩:=key h1;obtain⟨o2,h2⟩:=key h2;exact h.inj x x' o1 o2 c h1 h2 e1 e2
  ·rcases hx with hx | rfl
   ·exact h.lt x hx
   ·exact hrb.lt
  ·rcases hx with hx | rfl
   ·exact .inl hx
   ·exact .inr hbase
  ·rw[hcb] at hc;injection hc with hc;exact .inr hc.symm
  ·rcases hx with hx | rfl
   ·exact .inl hx
   ·exact .inr ⟨ob,rfl,hcb⟩
theorem Yj(b:Nat)(l:List AV):qM b l=l.map (jm b):=by
 induction l with
 | nil=>rfl
 | cons v r ih=>simp[qM,ih]
theorem zAN(b:Nat)(v:AV):jm b v=.undef\/(jm b v).isAgg=v.isAgg:=by cases v <;> simp only[jm] <;> first | (split <;> simp[AV.isAgg];done) | (simp[AV.isAgg];done)
theorem RA.kill{s:Nat}{v:AV}{cs:List Value}(h:RA E.L S φ w v cs):RA E.L S (upd φ s none) w (jm s v) cs:=by
 have hup:∀{b cb:Nat},φ b=some cb->¬b=s->upd φ s none b=some cb:=by intro b cb hb hne;simp[upd,hne,hb]
 induction h with
 | d x cs h=>exact .d x cs h
 | undef cs h1=>exact .undef cs h1
 | own b off len sz cb c hb hc hr =>
  simp only[jm];split
  ·exact .undef _ (by intro u hu;simp at hu;subst hu;rfl)
  ·exact .own b off len sz cb c (hup hb (by assumption)) hc hr
 | own0 b off sz x =>
  simp only[jm];split
  ·exact .undef _ (by intro u hu;simp at hu;subst hu;rfl)
  ·exact .own0 b off sz x
 | ptr b sz e p cb hb =>
  simp only[jm];split
  ·exact .undef _ (by intro u hu;simp at hu;subst hu;rfl)
  ·exact .ptr b sz e p cb (hup hb (by assumption))
 | omp b r hb =>
  simp only[jm];split
  ·exact .undef _ (by intro u hu;simp at hu;subst hu;rfl)
  ·exact .omp b r (hup hb (by assumption))
 | it b r hb =>
  simp only[jm];split
  ·exact .undef _ (by intro u hu;simp at hu;subst hu;rfl)
  ·exact .it b r (hup hb (by assumption))
 | agg tag fs css hl _ hz ih =>
  simp only[jm,Yj];exact .agg tag _ css (by simpa using hl) (λi h1 h2=>by simpa using ih i (by simpa using h1) h2) hz
 | fn f x y vx vy hx hy _ h2 _ h4 ih1 ih3 =>
  simp only[jm,Yj];refine .fn f _ _ vx vy (by simpa using hx) (by simpa using hy) (λi a b=>by simpa using ih1 i (by simpa using a) b) (λi a b=>?_) (λi a b=>by simpa using ih3 i (by simpa using a) b) (λi a b=>?_)
  ·simp only[List.getElem_map];rcases zAN s (x[i]'(by simpa using a)) with e | e
   ·exact .inl e
   ·rcases h2 i (by simpa using a) b with e' | e'
    ·left;rw[e'];rfl
    ·exact .inr (e'.trans e.symm)
  ·simp only[List.getElem_map];rcases zAN s (y[i]'(by simpa using a)) with e | e
   ·exact .inl e
   ·rcases h4 i (by simpa using a) b with e' | e'
    ·left;rw[e'];rfl
    ·exact .inr (e'.trans e.symm)
theorem RAV.kill{s:Nat}{v:AV}{u:Value}(h:RAV E.L S φ w v u):RAV E.L S (upd φ s none) w (jm s v) u:=by
 cases v with
 | undef=>exact trivial
 | d x=>exact h
 | _ =>
  refine RAV.of h.1.kill ?_;rcases zAN s _ with e | e
  ·exact .inl e
  ·exact .inr (h.2.trans e.symm)
theorem Jf{s b:Nat}{ob:OB}(h:slot (clear s st).hp b=some ob):b≠s/\∃ob0,slot st.hp b=some ob0/\J0 s (some ob0)=some ob:=by
 unfold clear at h;rcases Jp h with ⟨_,e⟩ | ⟨hne,h⟩
 ·cases e
 ·refine⟨hne,?_⟩;unfold slot at h ⊢;rw[List.getElem?_map] at h;cases hb:st.hp[b]? with
  | none=>rw[hb] at h;simp at h
  | some o =>
   rw[hb] at h;cases o with
   | none=>simp[J0] at h
   | some ob0 =>
    refine⟨ob0,rfl,?_⟩;simp only[Option.map_some] at h;cases hk:J0 s (some ob0) with
    | none=>rw[hk] at h;simp at h
    | some o=>rw[hk] at h;simpa using h
theorem killO_fz{s:Nat}{ob ob0:OB}(h:J0 s (some ob0)=some ob):ob.fz=ob0.fz:=by
 unfold J0 at h;split at h
 ·rename_i hx;injection hx with hx;subst hx;injection h with h;subst h;rfl
 ·injection h with h;subst h;rfl
theorem RB.kill{s cb:Nat}{ob ob0:OB}(hk:J0 s (some ob0)=some ob)(h:RB E.L S φ w ob0.blk cb):RB E.L S (upd φ s none) w ob.blk cb:=by
 unfold J0 at hk;split at hk
 ·rename_i hx;injection hx with hx;subst hx;injection hk with hk;subst hk
  obtain⟨cs,t,css,h1,h2,h3,h4,h5⟩:=h;exact⟨cs,t,css,h1,by simpa[Yj] using h2,λi a b=>by simpa[Yj] using(h3 i (by simpa[Yj] using a) b).kill,h4,h5⟩
 ·rename_i hne;injection hk with hk;subst hk
  obtain⟨z,blk⟩:=ob0;cases blk with
  | ac sz xs=>exact absurd rfl (hne z sz xs)
  | _=>exact h
theorem Rel.clear(h:Rel E base S φ st a w)(s:Nat):Rel E base S (upd φ s none) (clear s st) a w:=by
 refine⟨h.glob,λt v hv=>?_,λb ob hob=>?_,λb b' ob ob' c h1 h2 e1 e2=>?_,h.lt,h.base,h.dfr⟩
 ·simp only[Am.clear,Yj,List.getElem?_map] at hv;cases ht:st.tm[t]? with
  | none=>rw[ht] at hv;cases hv
  | some x =>
   rw[ht] at hv;injection hv with hv;subst hv
   obtain⟨u,hu,hr⟩:=h.tm t x ht;exact⟨u,hu,hr.kill⟩
 ·obtain⟨hne,ob0,h0,hk⟩:=Jf hob;obtain⟨cb,hc,hb,hr,hS⟩:=h.blk b ob0 h0;exact⟨cb,by simp[upd,hne,hc],hb,hr.kill hk,by rw[killO_fz hk];exact hS⟩
 ·obtain⟨n1,o1,s1,_⟩:=Jf h1;obtain⟨n2,o2,s2,_⟩:=Jf h2;simp only[upd,if_neg n1,if_neg n2] at e1 e2;exact h.inj b b' o1 o2 c s1 s2 e1 e2
end
end Go.Am
namespace Go.Am
open Go.Proofs
open Go Go.RowKit
mutual
theorem killV_id(b:Nat):∀v:AV,noRef b v=true->jm b v=v
 | .own c o l s,h=>by simp only[noRef,Bool.not_eq_true',beq_eq_false_iff_ne] at h;simp[jm,h]
 | .ptr c s e p,h=>by simp only[noRef,Bool.not_eq_true',beq_eq_false_iff_ne] at h;simp[jm,h]
 | .omp c,h=>by simp only[noRef,Bool.not_eq_true',beq_eq_false_iff_ne] at h;simp[jm,h]
 | .it c,h=>by simp only[noRef,Bool.not_eq_true',beq_eq_false_iff_ne] at h;simp[jm,h]
 | .agg t fs,h=>by simp only[noRef] at h;simp only[jm,QN b fs h]
 | .fn f x y,h=>by simp only[noRef,Bool.and_eq_true] at h;simp only[jm,QN b x h.1,QN b y h.2]
 | .d x,_=>rfl
 | .undef,_=>rfl
theorem QN(b:Nat):∀l:List AV,jU b l=true->qM b l=l
 | [],_=>rfl
 | v :: r,h=>by simp only[jU,Bool.and_eq_true] at h;simp only[qM,killV_id b v h.1,QN b r h.2]
end
theorem killO_id{b:Nat}{z:Bool}{blk:Blk}(h:zl b blk=true):J0 b (some ⟨z,blk⟩)=some ⟨z,blk⟩:=by
 cases blk with
 | ac s xs=>simp only[zl] at h;simp[J0,QN b xs h]
 | _=>rfl
section
variable{P:Program}{E:Env}{base:Nat}{S:Nat->Prop}{φ:Nat->Option Nat}{st:St}{a:Act}{w:World}
def Done(E:Env)(base:Nat)(S:Nat->Prop)(st':St)(a:Act)(dst:Option Tmp)(w:World)(r:Result Next):Prop :=
 ∃n u w' S' φ',r=.ok n w'/\(n=.value u\/(n=.skip/\u=undef))/\Rel E base S' φ' st' (a.put dst u) w'/\Grow base S S' w w'
theorem RB.noRef{s cb:Nat}{blk:Blk}(hn:zl s blk=true)(h:RB E.L S φ w blk cb)(x:Option Nat):RB E.L S (upd φ s x) w blk cb:=by
 have h0:=RB.kill (ob:=⟨false,blk⟩) (ob0:=⟨false,blk⟩) (killO_id (z:=false) hn) h;refine h0.mono (φ':=upd φ s x) ⟨λ_ h=>h,λ_ _=>rfl,λb c hc=>?_,λ_ _ _ _ h=>h⟩ rfl
 unfold upd at hc ⊢;split at hc
 ·cases hc
 ·rename_i hne;rw[if_neg hne];exact hc
theorem upd_upd{φ:Nat->Option Nat}{s:Nat}{x y:Option Nat}:upd (upd φ s x) s y=upd φ s y:=by funext b;unfold upd;split <;> rfl
theorem Rel.fresh(h:Rel E base S φ st a w)(b:Nat)(ob:OB)(hb:slot st.hp b=some ob):φ b≠some w.heap.size:=by
 obtain⟨c,hc,_,hr,_⟩:=h.blk b ob hb;rw[hc];intro e;injection e with e;have:=hr.lt;omega
theorem Rel.freshS(h:Rel E base S φ st a w):¬S w.heap.size:=λhs=>by have:=h.lt _ hs;omega
theorem Rel.newObj(h:Rel E base S φ st a w){s:Nat}{blk:Blk}{o:Obj}(hr:RB E.L S φ (w.alloc o) blk w.heap.size)(hn:zl s blk=true) :
  Rel E base S (upd φ s (some w.heap.size)) { Am.clear s st with hp:=(Am.clear s st).hp.set s (some ⟨false,blk⟩) } a (w.alloc o)/\Grow base S S w (w.alloc o):=by
 have h0:=h.clear s;have hw:=But.alloc w o w.heap.size;have:=h0.new (s:=s) (cb:=w.heap.size) (blk:=blk) (by simp[upd]) h0.base h0.freshS hw (λb ob hb=>h0.fresh b ob hb) (by rw[upd_upd];exact hr.noRef hn _)
 rw[upd_upd] at this;exact⟨this,hw.grow h0.lt h0.freshS h0.base h0.base⟩
def NewTo(P:Program)(E:Env)(S:Nat->Prop)(φ:Nat->Option Nat)(w:World)(s:Nat)(m:Sem Value)(ef:Eff):Prop :=
 ∃v blk u o,ef={ v,new:=some blk }/\m.run P w=.ok u (w.alloc o)/\RB E.L S φ (w.alloc o) blk w.heap.size/\∀φ',φ' s=some w.heap.size->RAV E.L S φ' (w.alloc o) v u
theorem NewTo.done(h:Rel E base S φ st a w){o:Oper}{m:Sem Value}{ef:Eff}(hn:NewTo P E S φ w (zc o) m ef)(hm:(execOp a.eval o).run P w=(do pure (.value (<-m)):Sem Next).run P w){st':St}
  (hs:(match ef.new with
   | none=>some (zo ef o.dst (zc o) st)
   | some b=>zv (o.dst.isSome && zl (zc o) b) (some (zo ef o.dst (zc o) (clear (zc o) st))))=some st') :
  Done E base S st' a o.dst w ((execOp a.eval o).run P w):=by
 obtain⟨v,blk,u,ob,rfl,hrun,hr,hv⟩:=hn;obtain⟨hg,hs⟩:=zJ hs;simp only[Bool.and_eq_true] at hg;injection hs with hs;subst hs
 obtain⟨hrel,hgrow⟩:=h.newObj hr hg.2;refine⟨_,u,w.alloc ob,S,upd φ (zc o) (some w.heap.size),by rw[hm];simp[hrun],.inl rfl,?_,hgrow⟩
 exact hrel.put o.dst (hv _ (by simp[upd]))
theorem QO(w:World)(o:Obj):(w.alloc o).heap[w.heap.size]? = some o:=heap_alloc_new w o
theorem Room.new(w:World)(cs:Array Value)(t:TypeId)(n:Nat)(h:n<=cs.size):Room (w.alloc (.cells cs t)) w.heap.size n:=⟨cs,t,QO w _,h⟩
theorem Keep.alloc(hlt:∀b,S b->b<w.heap.size)(o:Obj):Keep S S φ φ w (w.alloc o) :=
 ⟨λ_ h=>h,λb hb=>Below.heap_alloc _ _ _ (hlt b hb),λ_ _ h=>h,λ_ _ n _ hr=>RoomKeep.of (Below.heap_alloc _ _ _ hr.lt) n hr⟩
theorem RB.mk{sz:Nat}{vs:List AV}{css:List (List Value)}{cs:Array Value}{t:TypeId}(hlt:∀b,S b->b<w.heap.size)(hl:css.length=vs.length)(hr:∀i (h:i<vs.length) (h':i<css.length),RA E.L S φ w vs[i] css[i])
  (hz:∀c∈css,c.length=sz) (hp:css.flatten <+: cs.toList):RB E.L S φ (w.alloc (.cells cs t)) (mkBlk sz vs) w.heap.size:=by
 have k:Keep S S φ φ w (w.alloc (.cells cs t)):=Keep.alloc hlt _;unfold mkBlk;split
 ·rename_i ds hd;have e:=zAl hd;subst e;refine⟨cs,t,css,QO w _,by simpa using hl,λi h1 h2=>?_,hz,hp⟩
  have:=hr i (by simpa using h1) h2
  simp only[List.getElem_map] at this;cases this with
  | d _ _ h=>exact h.mono k.sub k.heap
 ·exact⟨cs,t,css,QO w _,hl,λi h1 h2=>(hr i h1 h2).mono k,hz,hp⟩
theorem RB.mkD{sz:Nat}{xs:List DV}{css:List (List Value)}{cs:Array Value}{t:TypeId}(hlt:∀b,S b->b<w.heap.size)(hl:css.length=xs.length)(hr:∀i (h:i<xs.length) (h':i<css.length),RD E.L S w xs[i] css[i])
  (hz:∀c∈css,c.length=sz) (hp:css.flatten <+: cs.toList):RB E.L S φ (w.alloc (.cells cs t)) (.dc sz xs) w.heap.size :=
 ⟨cs,t,css,QO w _,hl,λi h1 h2=>(hr i h1 h2).mono (λ_ h=>h) λb hb=>Below.heap_alloc _ _ _ (hlt b hb),hz,hp⟩
theorem RV.len{x:DV}{v:Value}(hx:x.isTup=false)(h:RV E.L S w x v):(vcs v).length=Jb E.L (.d x):=(RV.rd hx h).1.len
theorem allocE_sound(hD:DOK P E)(hlt:∀b,S b->b<w.heap.size){t:TypeId}{s:Nat}{ef:Eff}
  (h:(bnd (E.D t) λtd=>zv (decide (0<td.size)) <| some { v:=.ptr s td.size 0 [],new:=some (.dc td.size [td.zero]):Eff })=some ef) :
  NewTo P E S φ w s (Instr.alloc t true (.tuple #[])) ef:=by
 obtain⟨td,htd,h⟩:=bind_some h;obtain⟨_,h⟩:=zJ h;injection h with h;subst h
 have ht:=hD t td htd;obtain⟨i,z,hi,hsz,_,hz,hzr⟩:=ht.info;obtain⟨z',hz',hzr'⟩:=ht.zeroValue;have ez:z'=z:=by have:=hz' w;simp[Go.zeroValue,Go.typeInfo,hi,hz] at this;exact this.symm
 subst ez;have hrd:=RV.rd ht.zt (hzr S w);refine⟨_,_,.pointer (some ⟨w.heap.size,0,none⟩),.cells z'.cells t,rfl,by simp[Instr.alloc,hz',newVar,newRow],?_,λφ' hφ=>RAV.mkPtr hφ (by simp[offP])⟩
 refine RB.mkD hlt (css:=[vcs z']) rfl (λk h1 h2=>?_) (λc hc=>?_) (by simp[vcs])
 ·simp only[List.length_singleton] at h1;have:k=0:=by omega
  subst this;exact hrd.1
 ·simp only[List.mem_singleton] at hc;subst hc;rw[hrd.1.len];have hs:=ht.size;exact(jW ht ht.zfit).1.symm
theorem boxE_sound(hD:DOK P E)(hlt:∀b,S b->b<w.heap.size){t:TypeId}{s:Nat}{x:AV}{u:Value}(hu:RAV E.L S φ w x u){ef:Eff}
  (h:(bnd (E.D t) λtd=>zv (fits td x && decide (Jb E.L x=td.size/\0<td.size)) <| some { v:=.ptr s td.size 0 [],new:=some (mkBlk td.size [x]):Eff })=some ef) :
  NewTo P E S φ w s (Instr.box t u) ef:=by
 obtain⟨td,htd,h⟩:=bind_some h;obtain⟨hg,h⟩:=zJ h;simp only[Bool.and_eq_true,decide_eq_true_eq] at hg;obtain⟨hf,hsz,_⟩:=hg;injection h with h;subst h
 have ht:=hD t td htd;obtain⟨hra,hag⟩:=hu.cells (jW ht hf).2.2;have hx:x≠.undef:=by rintro rfl;have:=(jW ht hf).2.2;simp[stores] at this
 refine⟨_,_,.pointer (some ⟨w.heap.size,0,none⟩),.cells u.cells t,rfl,by simp[Instr.box,newVar,newRow],?_,λφ' hφ=>RAV.mkPtr hφ (by simp[offP])⟩
 refine RB.mk hlt (css:=[vcs u]) rfl (λk h1 h2=>?_) (λc hc=>?_) (by simp[vcs])
 ·simp only[List.length_singleton] at h1;have:k=0:=by omega
  subst this;exact hra
 ·simp only[List.mem_singleton] at hc;subst hc;rw[hra.len hx];exact hsz
theorem qZ{α:Type}(n:Nat)(c:List α):(List.replicate n c).flatten.length=n * c.length:=by
 induction n with
 | zero=>simp
 | succ n ih=>simp[List.replicate_succ,ih,Nat.succ_mul,Nat.add_comm]
theorem YD{α:Type}(c:List α):∀(n j:Nat),j<n * c.length->(List.replicate n c).flatten[j]? = c[j % c.length]?
 | 0,j,h=>by simp at h
 | n+1,j,h=>by
  rw[List.replicate_succ,List.flatten_cons];by_cases hj:j<c.length
  ·rw[List.getElem?_append_left hj,Nat.mod_eq_of_lt hj]
  ·rw[List.getElem?_append_right (by omega),YD c n (j - c.length) (by rw[Nat.add_mul,Nat.one_mul] at h;omega)]
   congr 1;exact(Nat.mod_eq_sub_mod (by omega)).symm
theorem zAF(z:Array Value)(n:Nat):(madeCells z (n * z.size)).toList=(List.replicate n z.toList).flatten:=by
 apply List.ext_getElem?;intro j;by_cases hj:j<n * z.size
 ·have hz:0<z.size:=by
   rcases Nat.eq_zero_or_pos z.size with e | e
   ·rw[e] at hj;simp at hj
   ·exact e
  rw[YD z.toList n j (by simpa using hj)]
  have hm:j % z.size<z.size:=Nat.mod_lt _ hz;simp[madeCells,hj,hm,getElem!_pos]
 ·have h1:(madeCells z (n * z.size)).toList.length=n * z.size:=by simp[size_madeCells]
  have h2:(List.replicate n z.toList).flatten.length=n * z.size:=by rw[qZ];simp
  rw[List.getElem?_eq_none (by omega),List.getElem?_eq_none (by omega)]
theorem makeSliceE_sound(hD:DOK P E)(hlt:∀b,S b->b<w.heap.size){t:TypeId}{s:Nat}{l c:AV}{ul uc:Value}(hl:RAV E.L S φ w l ul)(hc:RAV E.L S φ w c uc){ef:Eff}(h:Jg E t s l c=some ef) :
  NewTo P E S φ w s (Instr.makeSlice t ul uc) ef:=by
 unfold Jg at h;obtain⟨td,htd,h⟩:=bind_some h;have ht:=hD t td htd;split at h
 case h_2=>simp at h
 rename_i e hk;obtain⟨ed,hed,h⟩:=bind_some h;obtain⟨n,hn,h⟩:=bind_some h;obtain⟨m,hm,h⟩:=bind_some h;obtain⟨hg,h⟩:=zJ h;simp only[decide_eq_true_eq] at hg;obtain⟨hs0,hn0,hnm,hby,hmx⟩:=hg;injection h with h;subst h
 subst hnm;obtain⟨kl,rfl,_⟩:=qx hn hl;obtain⟨kc,rfl,_⟩:=qx hm hc;have he:=hD e ed hed;obtain⟨i,z,hi,hsz,hbz,hz,hzr⟩:=he.info;have hrd:=RV.rd he.zt (hzr S w);have hzl:z.cells.size=ed.size:=by have h1:(vcs z).length=Jb E.L (.d ed.zero):=hrd.1.len;rw[<-(jW he he.zfit).1] at h1;simpa[vcs] using h1
 have hrun:=run_make (P:=P) w t e i z (QC ht hk) hi hz kl kc n n hn0 (by omega) (by rw[hbz];exact hby) hmx
 have hcells:madeCells z.cells (n.toNat * i.size)=madeCells z.cells (n.toNat * z.cells.size):=by rw[hsz,hzl]
 refine⟨_,_,.slice (some ⟨w.heap.size,0,none⟩) n.toNat n.toNat,.cells (madeCells z.cells (n.toNat * z.cells.size)) e,rfl,by rw[<-hcells];exact hrun,?_,λφ' hφ=>?_⟩
 ·refine RB.mkD hlt (css:=List.replicate n.toNat (vcs z)) (by simp) (λk h1 h2=>?_) (λc hc=>?_) ?_
  ·simp only[List.getElem_replicate];exact hrd.1
  ·rw[List.mem_replicate] at hc;rw[hc.2];simpa[vcs] using hzl
  ·rw[zAF];exact List.prefix_refl _
 ·refine⟨?_,rfl⟩;have:=RA.own (L:=E.L) (S:=S) (φ:=φ') (w:=w.alloc (.cells (madeCells z.cells (n.toNat * z.cells.size)) e)) s 0 n.toNat ed.size w.heap.size n.toNat hφ (Nat.le_refl _)
   (Room.new _ _ _ _ (by rw[size_madeCells,hzl];simp))
  simpa[vcs,Value.cells] using this
theorem zBZ(hD:DOK P E)(hlt:∀b,S b->b<w.heap.size){t:TypeId}{s n:Nat}{ps:List (Nat×AV)}{us:Array (Nat×Value)}{ef:Eff}(h:JB E t s n ps=some ef)(hu:zBA E.L S φ w ps us.toList) :
  NewTo P E S φ w s (Instr.buildSlice t n us) ef\/(ef={ v:=.d .nl }/\∃u o,(Instr.buildSlice t n us).run P w=.ok u (w.alloc o)/\∀w',RV E.L S w' .nl u):=by
 unfold JB at h;obtain⟨td,htd,h⟩:=bind_some h;have ht:=hD t td htd;split at h
 case h_2=>simp at h
 rename_i e hk;obtain⟨ed,hed,h⟩:=bind_some h;obtain⟨hg,h⟩:=zJ h;simp only[decide_eq_true_eq] at hg;obtain⟨hs0,hcap⟩:=hg;obtain⟨vs,hvs,h⟩:=bind_some h;have he:=hD e ed hed;obtain⟨i,z,hi,hsz,hbz,hz,hzr⟩:=he.info;have hrd:=RV.rd he.zt (hzr S w);have hzl:z.cells.size=ed.size:=by have h1:(vcs z).length=Jb E.L (.d ed.zero):=hrd.1.len;rw[<-(jW he he.zfit).1] at h1;simpa[vcs] using h1
 have hmade:((Array.range (n * ed.size)).map λx=>z.cells[x % z.cells.size]!)=madeCells z.cells (n * z.cells.size):=by unfold madeCells;rw[hzl]
 obtain⟨cells',css',h1,h2,h3,h4,h5,h6⟩:=zBR (E:=E) (S:=S) (φ:=φ) (w:=w) (List.replicate n ed.size) (λi=>some (i * ed.size,ed.size)) (λi hi=>by
   simp only[List.length_replicate] at hi;simp only[List.take_replicate,List.sum_replicate_nat,List.getElem_replicate,Nat.min_eq_left (Nat.le_of_lt hi)]) ps us.toList _ vs (List.replicate n (vcs z)) (madeCells z.cells (n * z.cells.size)) hvs hu (by simp)
   (λk a b=>by simp only[List.getElem_replicate];exact .d _ _ hrd.1) (by simp[vcs,hzl]) (zAF _ _)
 have hrun:(Instr.buildSlice t n us).run P w=.ok (.slice (some ⟨w.heap.size,0,none⟩) n n) (w.alloc (.cells cells' e)):=by
  have hc:¬n * ed.size>2 ^ 24:=by omega
  have hso:=he.sizeOf w;unfold Instr.buildSlice;simp only[Sem.run_bind,run_underlying (QC ht hk),Result.andThen_ok,hso];rw[if_neg hc];by_cases hn:n * ed.size=0
  ·have hn0:n=0:=by
    rcases Nat.mul_eq_zero.1 hn with e | e
    ·exact e
    ·omega
   subst hn0;simp only[Nat.zero_mul,if_true] at h1 ⊢;have e0:madeCells z.cells 0=#[]:=by simp[madeCells]
   rw[e0] at h1;have e1:Array.range 0=#[]:=rfl;simp[e1,h1,newRow]
  ·rw[if_neg hn];have hzv:(zeroValue e).run P w=.ok z w:=by simp[Go.zeroValue,Go.typeInfo,hi,hz]
   simp only[Sem.run_bind,hzv,Result.andThen_ok,Sem.run_pure,hmade];simp[h1,newRow]
 have h2':css'.length=vs.length:=h2;have hlen:vs.length=n:=by rw[h6];simp
 cases n with
 | zero =>
  right;simp[zj] at h;exact⟨h.symm,_,_,hrun,λw'=>⟨.nl _,rfl⟩⟩
 | succ n =>
  left;simp only at h;injection h with h
  refine⟨_,_,_,_,h.symm,hrun,RB.mk hlt h2' h3 (λc hc=>?_) (by rw[h5];exact List.prefix_refl _),λφ' hφ=>?_⟩
  ·have:c.length∈css'.map (·.length):=List.mem_map.2 ⟨c,hc,rfl⟩;rw[h4,List.mem_replicate] at this;exact this.2
  ·refine⟨?_,rfl⟩;have hcl:cells'.size=(n+1) * ed.size:=by rw[<-Array.length_toList,h5,List.length_flatten,h4];simp
   have:=RA.own (L:=E.L) (S:=S) (φ:=φ') (w:=w.alloc (.cells cells' e)) s 0 (n+1) ed.size w.heap.size (n+1) hφ (Nat.le_refl _)
    (Room.new _ _ _ _ (by rw[hcl];simp))
   simpa[vcs,Value.cells] using this
theorem makeMapE_sound{t:TypeId}{s:Nat}:NewTo P E S φ w s (Instr.makeMap t none) { v:=.omp s,new:=some (.mp [] []) } :=
 ⟨_,_,.map (some w.heap.size),.map #[] 0,rfl,by simp[Instr.makeMap],⟨[],0,QO w _,rfl,rfl,by simp,by simp⟩,λφ' hφ=>⟨.omp s _ hφ,rfl⟩⟩
theorem rangeE_sound{t:TypeId}{s:Nat}{x:AV}{u:Value}(hu:RAV E.L S φ w x u)(hD:DOK P E){td:TD}(htd:E.D t=some td)(hk:td.k=.str){ef:Eff}(h:rangeE s x=some ef):NewTo P E S φ w s (Instr.range t u) ef:=by
 unfold rangeE at h;split at h
 case h_2=>simp at h
 rename_i b;injection h with h;subst h
 have:=RV.str (show RV E.L S w (.str b) u from hu)
 subst this;have hd:=(hD t td htd).desc;simp only[hk,Dsc] at hd;exact⟨_,_,.pointer (some ⟨w.heap.size,0,none⟩),.stringIter b 0,rfl,by simp[Instr.range,run_underlying hd],QO w _,λφ' hφ=>⟨.it s _ hφ,rfl⟩⟩
end
end Go.Am
namespace Go.Am
open Go.Proofs
open Go Go.RowKit
section
variable{P:Program}{E:Env}{base:Nat}{S:Nat->Prop}{φ:Nat->Option Nat}{st:St}{a:Act}{w:World}
theorem zBP:∀(p:List (Nat×Nat)) {v x:AV} {cs:List Value},getP p v=some x->RA E.L S φ w v cs ->
  ∃cs',RA E.L S φ w x cs'/\∀j u,cs'[j]? = some u->cs[offP E.L p+j]? = some u
 | [],v,x,cs,h,hr=>by
  simp[getP] at h;subst h;exact⟨cs,hr,λj u hj=>by simpa[offP] using hj⟩
 | (tag,i) :: p,v,x,cs,h,hr=>by
  simp only[getP] at h;split at h
  case h_2=>simp at h
  rename_i y hy;obtain⟨css,hi,rfl,hz,hr'⟩:=zBQ hy hr;obtain⟨cs',h1,h2⟩:=zBP p h hr';refine⟨cs',h1,λj u hj=>?_⟩
  have h3:=h2 j u hj;have hlt:offP E.L p+j<css[i].length:=(List.getElem?_eq_some_iff.1 h3).1;rw[<-Y8 css i hi _ hlt,hz] at h3;simpa[offP,Nat.add_assoc] using h3
theorem qI{cb n:Nat}{cs:Array Value}{t:TypeId}{fr:Nat×Nat}(h:w.heap[cb]? = some (.cells cs t fr)):w.cell? ⟨cb,n,none⟩=cs[n]?:=by simp[World.cell?,h]
theorem YO{α:Type}{l m:List α}(h:l <+: m){j:Nat}{u:α}(hj:l[j]? = some u):m[j]? = some u:=by obtain⟨r,rfl⟩:=h;rw[List.getElem?_append_left (List.getElem?_eq_some_iff.1 hj).1];exact hj
theorem Blk.get_sound{sz e:Nat}{blk:Blk}{v:AV}{cb:Nat}(h:blk.get sz e=some v)(hr:RB E.L S φ w blk cb) :
  ∃cs',RA E.L S φ w v cs'/\cs'.length=sz/\∀j u,cs'[j]? = some u->w.cell? ⟨cb,e * sz+j,none⟩=some u:=by
 unfold Blk.get at h;split at h
 ·rename_i s xs;split at h
  case isFalse=>simp at h
  rename_i hs;subst hs;split at h
  case h_2=>simp at h
  rename_i x hx;injection h with h;subst h
  obtain⟨cs,t,css,h1,h2,h3,h4,h5⟩:=hr;obtain⟨hlt,rfl⟩:=List.getElem?_eq_some_iff.1 hx;have hc:e<css.length:=by omega
  refine⟨css[e],.d _ _ (h3 e hlt hc),h4 _ (List.getElem_mem hc),λj u hj=>?_⟩
  rw[qI h1];have hjl:j<s:=by rw[<-h4 _ (List.getElem_mem hc)];exact(List.getElem?_eq_some_iff.1 hj).1
  rw[<-JI css h4 e hc j hjl] at hj;simpa using YO h5 hj
 ·rename_i s xs;split at h
  case isFalse=>simp at h
  rename_i hs;subst hs;obtain⟨cs,t,css,h1,h2,h3,h4,h5⟩:=hr;obtain⟨hlt,rfl⟩:=List.getElem?_eq_some_iff.1 h;have hc:e<css.length:=by omega
  refine⟨css[e],h3 e hlt hc,h4 _ (List.getElem_mem hc),λj u hj=>?_⟩
  rw[qI h1];have hjl:j<s:=by rw[<-h4 _ (List.getElem_mem hc)];exact(List.getElem?_eq_some_iff.1 hj).1
  rw[<-JI css h4 e hc j hjl] at hj;simpa using YO h5 hj
 ·simp at h
theorem J8{t:TypeId}{td:TD}(ht:TOK P E t td){v:AV}(hf:fits td v=true){ad:Addr}{cs:List Value}(hr:RA E.L S φ w v cs)(hm:∀j u,cs[j]? = some u->w.cell? (ad.add j)=some u) :
  (loadVar t ad).run P w=.ok (ofCells v.isAgg cs) w:=by
 obtain⟨h1,h2,h3⟩:=jW ht hf;have hv:v≠.undef:=by rintro rfl;simp[stores] at h3
 have hl:cs.length=td.size:=by rw[hr.len hv,h1]
 unfold loadVar;rw[Sem.run_bind,ht.isAgg w,Result.andThen_ok,h2];cases hb:v.isAgg with
 | true =>
  simp only[if_true,Sem.run_bind,ht.sizeOf w,Result.andThen_ok];rw[<-hl,run_loadCells_list (P:=P) w ad cs hm];simp[ofCells]
 | false =>
  obtain⟨u,rfl,_⟩:=hr.one hb hv;have:=hm 0 u rfl;rw[show ad.add 0=ad from by unfold Addr.add;simp] at this
  simp[run_load,this,ofCells]
theorem qL(hD:DOK P E)(h:Rel E base S φ st a w){t:TypeId}{x:AV}{u:Value}(hu:RAV E.L S φ w x u){ef:Eff}(hl:YQ E t st.hp x=some ef) :
  ∃v r,ef={ v }/\(Instr.loadAt t u).run P w=.ok r w/\RAV E.L S φ w v r:=by
 unfold YQ at hl;obtain⟨td,htd,hl1⟩:=bind_some hl;clear hl;have hl:=hl1;clear hl1;have ht:=hD t td htd;split at hl
 ·rename_i y;obtain⟨hf,hl⟩:=zJ hl;simp[zj] at hl;subst hl;obtain⟨ad,cs,rfl,hs,_,hm,hr⟩:=RV.dp (show RV E.L S w (.dp y) u from hu)
  have hra:RA E.L S φ w (.d y) cs:=.d _ _ hr;refine⟨_,ofCells y.isAgg cs,rfl,?_,RV.ofCells hr⟩;simp only[Instr.loadAt,Instr.sureAddr,Sem.run_bind,Sem.run_pure,Result.andThen_ok];exact J8 ht hf hra hm
 ·rename_i b sz e p;obtain⟨ob,hob,hl⟩:=bind_some hl;obtain⟨v,hv,hl⟩:=bind_some hl;obtain⟨y,hy,hl⟩:=bind_some hl;obtain⟨hf,hl⟩:=zJ hl;simp[zj] at hl;subst hl;obtain⟨cb,rfl,hφ⟩:=hu.ptr;obtain⟨cb',hφ',_,hrb,_⟩:=h.blk b ob hob;rw[hφ] at hφ';injection hφ' with hφ';subst hφ'
  obtain⟨cs,hr,_,hm⟩:=Blk.get_sound hv hrb;obtain⟨cs',hr',hm'⟩:=zBP p hy hr;refine⟨_,ofCells y.isAgg cs',rfl,?_,RAV.ofCells hr'⟩;simp only[Instr.loadAt,Instr.sureAddr,Sem.run_bind,Sem.run_pure,Result.andThen_ok];refine J8 ht hf hr' λj u hj=>?_
  rw[jo rfl];have:=hm _ u (hm' j u hj);simpa[Nat.add_assoc] using this
 ·simp at hl
theorem RV.mp{ks vs:List DV}{u:Value}(h:RV E.L S w (.mp ks vs) u):∃(r:Nat) (es:List MapEntry) (clock:Nat),u=.map (some r)/\w.heap[r]? = some (.map es.toArray clock)/\es.length=ks.length/\es.length=vs.length /\
  (∀i (h:i<ks.length) (h':i<es.length),RD E.L S w ks[i] (vcs es[i].key)/\aggV es[i].key=ks[i].isAgg) /\
  (∀i (h:i<vs.length) (h':i<es.length),RD E.L S w vs[i] (vcs es[i].val)/\aggV es[i].val=vs[i].isAgg):=by
 obtain⟨h,ha⟩:=h;rw[jF ha] at h;cases h with
 | mp _ _ r es clock _ hr hk hv h1 h2 h3 h4=>exact⟨r,es,clock,rfl,hr,hk,hv,λi a b=>⟨h1 i a b,h2 i a b⟩,λi a b=>⟨h3 i a b,h4 i a b⟩⟩
theorem RAV.omp{b:Nat}{u:Value}(h:RAV E.L S φ w (.omp b) u):∃r,u=.map (some r)/\φ b=some r:=by
 have h:=RAV.one (v:=.omp b) h rfl rfl;cases h with
 | omp _ r hb=>exact⟨r,rfl,hb⟩
theorem RAV.it'{b:Nat}{u:Value}(h:RAV E.L S φ w (.it b) u):∃r,u=.pointer (some ⟨r,0,none⟩)/\φ b=some r:=by
 have h:=RAV.one (v:=.it b) h rfl rfl;cases h with
 | it _ r hb=>exact⟨r,rfl,hb⟩
theorem mapOf_sound(h:Rel E base S φ st a w){m:AV}{u:Value}(hu:RAV E.L S φ w m u){mv:List DV×List DV}(hm:Qn st.hp m=some mv) :
  (u=.map none/\mv=([],[]))\/∃(r:Nat) (es:List MapEntry) (clock:Nat),u=.map (some r)/\w.heap[r]? = some (.map es.toArray clock)/\es.length=mv.1.length/\es.length=mv.2.length /\
   (∀i (h:i<mv.1.length) (h':i<es.length),RD E.L S w mv.1[i] (vcs es[i].key)/\aggV es[i].key=mv.1[i].isAgg) /\
   (∀i (h:i<mv.2.length) (h':i<es.length),RD E.L S w mv.2[i] (vcs es[i].val)/\aggV es[i].val=mv.2[i].isAgg):=by
 unfold Qn at hm;split at hm
 ·injection hm with hm;subst hm
  exact .inr (RV.mp hu)
 ·injection hm with hm;subst hm
  obtain⟨hr,ha⟩:=(hu:RV E.L S w .nilMp u);rw[jF ha] at hr;cases hr;exact .inl ⟨rfl,rfl⟩
 ·rename_i b;split at hm
  case h_2=>simp at hm
  rename_i z ks vs hs;injection hm with hm;subst hm
  obtain⟨r,rfl,hφ⟩:=hu.omp;obtain⟨cb,hφ',_,hrb,_⟩:=h.blk b _ hs;rw[hφ] at hφ';injection hφ' with hφ';subst hφ'
  obtain⟨es,clock,h1,h2,h3,h4,h5⟩:=hrb;exact .inr ⟨r,es,clock,rfl,h1,h2,h3,h4,h5⟩
 ·simp at hm
def keyD(td:TD):TypeDesc->Prop:=λd=>match td.k with
 | .int k=>d=.int k
 | .str=>d=.string
 | .bool=>d=.bool
 | _=>False
theorem zBd{t:TypeId}{td:TD}(ht:TOK P E t td){k:DV}(hk:jl td k=true){u:Value}(hu:RV E.L S w k u) :
  ∃d,P.underlying t=some d/\keyD td d/\MapKept.IsKey d u:=by
 have hd:=ht.desc;unfold jl at hk;split at hk <;> try (simp at hk;done)
 ·rename_i j n;split at hk
  case h_2=>simp at hk
  rename_i j' htk;simp only[htk,Dsc] at hd;simp only[beq_iff_eq] at hk;have:=RV.int hu;subst this;exact⟨_,hd,by simp[keyD,htk],by simp[MapKept.IsKey,hk]⟩
 ·split at hk
  case h_2=>simp at hk
  rename_i htk;simp only[htk,Dsc] at hd;have:=RV.str hu;subst this;exact⟨_,hd,by simp[keyD,htk],by simp[MapKept.IsKey]⟩
 ·split at hk
  case h_2=>simp at hk
  rename_i htk;simp only[htk,Dsc] at hd;have:=RV.bool hu;subst this;exact⟨_,hd,by simp[keyD,htk],by simp[MapKept.IsKey]⟩
theorem zAr{td:TD}{d:TypeDesc}(hd:keyD td d){k x:DV}(hk:jl td k=true){b:Bool}(hb:j6 k x=some b){u v:Value}(hu:RV E.L S w k u)(hv:RV E.L S w x v):Instr.sameNow d u v=some b:=by
 unfold jl at hk;unfold j6 at hb;split at hb
 ·rename_i p q;have e1:=RV.bool hu;have e2:=RV.bool hv;subst e1;subst e2;simp only at hk;split at hk
  case h_2=>simp at hk
  rename_i htk;simp only[keyD,htk] at hd;subst hd;injection hb with hb;subst hb
  rfl
 ·rename_i j p j' q;have e1:=RV.int hu;have e2:=RV.int hv;subst e1;subst e2;simp only at hk;split at hk
  case h_2=>simp at hk
  rename_i htk;simp only[keyD,htk] at hd;subst hd;split at hb
  case isFalse=>simp at hb
  rename_i e;subst e;injection hb with hb;subst hb
  simp[Instr.sameNow]
 ·rename_i p q;have e1:=RV.str hu;have e2:=RV.str hv;subst e1;subst e2;simp only at hk;split at hk
  case h_2=>simp at hk
  rename_i htk;simp only[keyD,htk] at hd;subst hd;injection hb with hb;subst hb
  simp only[Instr.sameNow,Option.some.injEq];have:(p == q)=(p.toList == q.toList):=by
   rw[Bool.eq_iff_iff,MapKept.bytes_beq];simp only[beq_iff_eq];constructor
   ·rintro rfl;rfl
   ·intro e;rw[Go.ByteArray.toList_eq,Go.ByteArray.toList_eq] at e;obtain⟨x⟩:=p;obtain⟨y⟩:=q;rw[show x=y from Array.ext' e]
  exact this
 ·simp at hb
theorem zA2{td:TD}{d:TypeDesc}(hd:keyD td d){k:DV}(hk:jl td k=true){u:Value}(hu:RV E.L S w k u) :
  ∀(ks vs:List DV) (es:List MapEntry) (n:Nat) (r:Option DV),jh k ks vs=some r->es.length=ks.length->es.length=vs.length ->
   (∀i (h:i<ks.length) (h':i<es.length),RD E.L S w ks[i] (vcs es[i].key)/\aggV es[i].key=ks[i].isAgg) ->
   match r with
   | none=>Instr.findNow d u es n=some none
   | some v=>∃(i:Nat) (h:i<vs.length) (h':i<es.length),vs[i]=v/\Instr.findNow d u es n=some (some (n+i,es[i].val))
 | [],vs,es,n,r,h,h1,h2,h3=>by
  simp[jh] at h;subst h;have:es=[]:=List.eq_nil_of_length_eq_zero h1;subst this;rfl
 | x :: ks,[],es,n,r,h,h1,h2,h3=>by simp[jh] at h
 | x :: ks,v :: vs,[],n,r,h,h1,h2,h3=>by simp at h1
 | x :: ks,v :: vs,e :: es,n,r,h,h1,h2,h3=>by
  simp only[jh] at h;obtain⟨b,hb,h⟩:=bind_some h;have h0:=h3 0 (by simp) (by simp)
  simp only[List.getElem_cons_zero] at h0;have hs:=zAr hd hk hb hu (RV.of h0.1.notTup h0.1 h0.2);cases b with
  | true =>
   simp only[Option.some.injEq] at h;subst h;exact⟨0,by simp,by simp,rfl,by simp[Instr.findNow,hs]⟩
  | false =>
   have ih:=zA2 hd hk hu ks vs es (n+1) r h (by simpa using h1) (by simpa using h2) (λi a b=>h3 (i+1) (by simp;omega) (by simp;omega))
   cases r with
   | none=>simp only at ih ⊢;simp[Instr.findNow,hs,ih]
   | some y =>
    obtain⟨i,a,b,e1,e2⟩:=ih;refine⟨i+1,by simp;omega,by simp;omega,e1,?_⟩
    simp only[Instr.findNow,hs,e2];simp[Nat.add_assoc,Nat.add_comm 1 i]
theorem lookupE_sound(hD:DOK P E)(h:Rel E base S φ st a w){t:TypeId}{m k:AV}{ok:Bool}{um uk:Value}(hum:RAV E.L S φ w m um)(huk:RAV E.L S φ w k uk){ef:Eff}(hl:JN E t st.hp m k ok=some ef) :
  ∃v r,ef={ v }/\(Instr.lookup t um uk ok).run P w=.ok r w/\RAV E.L S φ w v r:=by
 unfold JN at hl;obtain⟨td,htd,hl1⟩:=bind_some hl;clear hl;have ht:=hD t td htd;split at hl1
 case h_2=>simp at hl1
 rename_i kt et hk;obtain⟨kd,hkd,hl2⟩:=bind_some hl1;clear hl1;obtain⟨ed,hed,hl3⟩:=bind_some hl2;clear hl2;split at hl3
 case h_2=>simp at hl3
 rename_i k';obtain⟨hkk,hl4⟩:=zJ hl3;clear hl3;obtain⟨mv,hmv,hl5⟩:=bind_some hl4;clear hl4;obtain⟨r,hr,hl6⟩:=bind_some hl5;clear hl5;have hmt:=ht.desc;simp only[hk,Dsc] at hmt;obtain⟨d,hd1,hd2,hd3⟩:=zBd (hD kt kd hkd) hkk (show RV E.L S w k' uk from huk)
 obtain⟨z,hz,hzr⟩:=(hD et ed hed).zeroValue;have hck:∀e,(Instr.checkKey e 10000 kt uk).run P w=.ok () w:=λe=>MapKept.run_checkKey hd1 hd3 e 9999
 have run:∀(es:List MapEntry) (x:Option (Nat×Value)),Instr.findNow d uk es 0=some x->((um=.map none/\es=[])\/∃r clock,um=.map (some r)/\w.heap[r]? = some (.map es.toArray clock)) ->
   (Instr.lookup t um uk ok).run P w=.ok (match x with | some (_,v)=>if ok then .tuple #[v,.bool true] else v | none=>if ok then .tuple #[z,.bool false] else z) w:=by
  intro es x hx hum;have hfk:=MapKept.run_findKey (P:=P) (w:=w) hd1 hx;rcases hum with ⟨rfl,rfl⟩ | ⟨r,clock,rfl,hh⟩
  ·have hfk':(Instr.findKey kt uk []).run P w=.ok x w:=hfk;cases x with
   | none=>simp[Instr.lookup,run_underlying hmt,hck,hfk',hz]
   | some y=>simp[Instr.lookup,run_underlying hmt,hck,hfk',hz]
  ·cases x with
   | none=>simp[Instr.lookup,run_underlying hmt,hck,hfk,hz,MapKept.run_getObj_map hh]
   | some y=>simp[Instr.lookup,run_underlying hmt,hck,hfk,hz,MapKept.run_getObj_map hh]
 have key:∃es:List MapEntry,((um=.map none/\es=[])\/∃r clock,um=.map (some r)/\w.heap[r]? = some (.map es.toArray clock))/\es.length=mv.1.length/\es.length=mv.2.length /\
   (∀i (h:i<mv.1.length) (h':i<es.length),RD E.L S w mv.1[i] (vcs es[i].key)/\aggV es[i].key=mv.1[i].isAgg) /\
   (∀i (h:i<mv.2.length) (h':i<es.length),RD E.L S w mv.2[i] (vcs es[i].val)/\aggV es[i].val=mv.2[i].isAgg):=by
  rcases mapOf_sound h hum hmv with ⟨rfl,rfl⟩ | ⟨r,es,clock,rfl,h1,h2,h3,h4,h5⟩
  ·exact⟨[],.inl ⟨rfl,rfl⟩,rfl,rfl,by simp,by simp⟩
  ·exact⟨es,.inr ⟨r,clock,rfl,h1⟩,h2,h3,h4,h5⟩
 obtain⟨es,hes,h2,h3,h4,h5⟩:=key;have hfn:=zA2 (E:=E) hd2 hkk (show RV E.L S w k' uk from huk) mv.1 mv.2 es 0 r hr h2 h3 h4
 cases r with
 | none =>
  simp only at hfn hl6;have hrun:=run es none hfn hes;cases ok with
  | true =>
   simp[zj] at hl6;subst hl6;exact⟨_,_,rfl,hrun,[z,.bool false],rfl,rfl,λi a b=>by
    match i,a with
    | 0,_=>exact RV.rd (hD et ed hed).zt (hzr S w)
    | 1,_=>exact⟨.bool false,rfl⟩⟩
  | false =>
   simp[zj] at hl6;subst hl6;exact⟨_,_,rfl,hrun,hzr S w⟩
 | some v =>
  obtain⟨i,a,b,e1,e2⟩:=hfn;simp only at hl6;have hrun:=run es _ e2 hes;have h6:=h5 i a b;rw[e1] at h6;cases ok with
  | true =>
   simp[zj] at hl6;subst hl6;exact⟨_,_,rfl,hrun,[es[i].val,.bool true],rfl,rfl,λj c d=>by
    match j,c with
    | 0,_=>exact h6
    | 1,_=>exact⟨.bool true,rfl⟩⟩
  | false =>
   simp[zj] at hl6;subst hl6;exact⟨_,_,rfl,hrun,RV.of h6.1.notTup h6.1 h6.2⟩
theorem lenE_sound(hD:DOK P E)(h:Rel E base S φ st a w){ts:Array TypeId}{vs:List AV}{us:List Value}(hu:ListOK E.L S φ w vs us){ef:Eff}(hl:lenE E ts.toList st.hp vs=some ef)(ty:TypeId) :
  ∃v r,ef={ v }/\(Builtin.len_ ts ty us.toArray).run P w=.ok r w/\RAV E.L S φ w v r:=by
 unfold lenE at hl;split at hl
 case h_2=>simp at hl
 rename_i x;split at hl
 case h_2=>simp at hl
 rename_i t hts;obtain⟨td,htd,hl1⟩:=bind_some hl;clear hl;have ht:=hD t td htd;have hd:=ht.desc;obtain⟨u,rfl⟩:∃u,us=[u]:=List.length_eq_one_iff.1 (by simpa using hu.1)
 have hx:=hu.2 0 (by simp) (by simp)
 clear hu;simp only[List.getElem_cons_zero] at hx;have ets:ts=#[t]:=Array.ext' (by simpa using hts)
 subst ets;split at hl1
 ·rename_i s hk;simp only[hk,Dsc] at hd;simp[zj] at hl1;subst hl1;have:=RV.str (show RV E.L S w (.str s) u from hx);subst this
  exact⟨_,goInt s.size,rfl,by simp[Builtin.len_,run_underlying hd],RV.mkInt _ _⟩
 ·rename_i e hk;simp only[hk,Dsc] at hd;simp[zj] at hl1;subst hl1;obtain⟨b,rfl⟩:=RV.nl (show RV E.L S w .nl u from hx)
  exact⟨_,goInt 0,rfl,by simp[Builtin.len_,run_underlying hd],RV.mkInt _ _⟩
 ·rename_i e sz xs hk;simp only[hk,Dsc] at hd;simp[zj] at hl1;subst hl1;obtain⟨b,c,css,rfl,_⟩:=RV.sl (show RV E.L S w (.sl sz xs) u from hx)
  exact⟨_,goInt xs.length,rfl,by simp[Builtin.len_,run_underlying hd],RV.mkInt _ _⟩
 ·rename_i e b off n sz hk;simp only[hk,Dsc] at hd;simp[zj] at hl1;subst hl1;rcases RAV.own hx with ⟨cb,c,_,_,_,rfl⟩ | ⟨b',rfl,rfl⟩
  ·exact⟨_,goInt n,rfl,by simp[Builtin.len_,run_underlying hd],RV.mkInt _ _⟩
  ·exact⟨_,goInt 0,rfl,by simp[Builtin.len_,run_underlying hd],RV.mkInt _ _⟩
 ·rename_i tag n e hk;simp only[hk,Dsc] at hd;simp[zj] at hl1;subst hl1;exact⟨_,goInt n,rfl,by simp[Builtin.len_,run_underlying hd.1],RV.mkInt _ _⟩
 ·rename_i k e hk;simp only[hk,Dsc] at hd;obtain⟨mv,hmv,hl2⟩:=bind_some hl1;clear hl1;simp[zj] at hl2;subst hl2;rcases mapOf_sound h hx hmv with ⟨rfl,rfl⟩ | ⟨r,es,clock,rfl,h1,h2,h3,h4,h5⟩
  ·exact⟨_,goInt 0,rfl,by simp[Builtin.len_,run_underlying hd],RV.mkInt _ _⟩
  ·exact⟨_,goInt mv.1.length,rfl,by simp[Builtin.len_,run_underlying hd,MapKept.run_getObj_map h1,h2],RV.mkInt _ _⟩
 ·simp at hl1
end
end Go.Am
namespace Go.Am
open Go.Proofs
open Go Go.RowKit
theorem Yx{α β:Type}{f:α->Option β}:∀{l:List α} {r:List β},mapO f l=some r->r.length=l.length/\∀i (h:i<l.length) (h':i<r.length),f l[i]=some r[i]
 | [],r,h=>by simp[mapO] at h;subst h;exact⟨rfl,λi h=>by simp at h⟩
 | x :: l,r,h=>by
  simp only[mapO] at h;split at h
  case h_2=>simp at h
  rename_i y hy;split at h
  case h_2=>simp at h
  rename_i ys hys;injection h with h;subst h
  obtain⟨h1,h2⟩:=Yx hys;refine⟨by simp[h1],λi a b=>?_⟩
  cases i with
  | zero=>exact hy
  | succ i=>exact h2 i (by simpa using a) (by simpa using b)
section
variable{P:Program}{E:Env}{base:Nat}{S:Nat->Prop}{φ:Nat->Option Nat}{st:St}{a:Act}{w:World}
theorem snap_isAgg{hp:List (Option OB)}{n:Nat}{v:AV}{d:DV}{u:Value}(hs:snap hp n v=some d)(hv:v=.undef\/aggV u=v.isAgg):aggV u=d.isAgg:=by
 rcases hv with rfl | hv
 ·cases n <;> simp[snap] at hs
 rw[hv];cases v with
 | d y=>cases n <;> (simp only[snap] at hs;injection hs with hs;subst hs;rfl)
 | undef=>cases n <;> simp[snap] at hs
 | it b=>cases n <;> simp[snap] at hs
 | omp b =>
  have:∃ks vs,d=.mp ks vs:=by
   cases n <;> (simp only[snap] at hs;split at hs <;> first | (injection hs with hs;exact⟨_,_,hs.symm⟩) | (simp at hs))
  obtain⟨_,_,rfl⟩:=this;rfl
 | own b off len sz =>
  cases n with
  | zero=>simp[snap] at hs
  | succ n =>
   simp only[snap] at hs;split at hs
   ·split at hs
    ·injection hs with hs;subst hs;rfl
    ·simp at hs
   ·split at hs
    ·split at hs
     ·injection hs with hs;subst hs;rfl
     ·simp at hs
    ·simp at hs
   ·simp at hs
 | ptr b sz e p =>
  cases n with
  | zero=>simp[snap] at hs
  | succ n =>
   simp only[snap] at hs
   repeat' (split at hs)
   all_goals first | (simp at hs;done) | (injection hs with hs;subst hs;rfl)
 | agg t fs =>
  cases n with
  | zero=>simp[snap] at hs
  | succ n =>
   simp only[snap] at hs;split at hs
   ·injection hs with hs;subst hs;rfl
   ·simp at hs
 | fn f x y =>
  cases n with
  | zero=>simp[snap] at hs
  | succ n =>
   simp only[snap] at hs;split at hs
   ·injection hs with hs;subst hs;rfl
   ·simp at hs
def Plus(S:Nat->Prop)(φ:Nat->Option Nat)(hp:List (Option OB))(ss:List Nat):Nat->Prop:=λx=>S x\/∃s∈ss,∃ob,slot hp s=some ob/\φ s=some x
theorem Plus.mono{hp:List (Option OB)}{ss tt:List Nat}(h:∀s∈ss,s∈tt):∀x,Plus S φ hp ss x->Plus S φ hp tt x:=λx hx=>hx.imp id λ⟨s,hs,r⟩=>⟨s,h s hs,r⟩
theorem snap_sound(h:Rel E base S φ st a w):∀(n:Nat) (v:AV) (x:DV) (cs:List Value),snap st.hp n v=some x->RA E.L S φ w v cs->RD E.L (Plus S φ st.hp (sites st.hp n v)) w x cs:=by
 intro n;induction n with
 | zero =>
  intro v x cs hs hr;cases v <;> simp only[snap] at hs <;> try (simp at hs;done)
  ·injection hs with hs;subst hs
   cases hr with
   | d _ _ hr=>exact hr.mono (λb hb=>.inl hb) (λ_ _=>rfl)
  ·rename_i b;split at hs
   case h_2=>simp at hs
   rename_i z ks vs hsl;injection hs with hs;subst hs
   cases hr with
   | omp _ r hb =>
    obtain⟨cb,hc,_,hrb,_⟩:=h.blk b _ hsl;rw[hb] at hc;injection hc with hc;subst hc
    obtain⟨es,clock,h1,h2,h3,h4,h5⟩:=hrb;have hp:Plus S φ st.hp (sites st.hp 0 (.omp b)) r:=.inr ⟨b,by simp[sites],_,hsl,hb⟩
    refine .mp ks vs r es clock hp h1 h2 h3 (λi a b=>(h4 i a b).1.mono (λb hb=>.inl hb) λ_ _=>rfl) (λi a b=>(h4 i a b).2) (λi a b=>(h5 i a b).1.mono (λb hb=>.inl hb) λ_ _=>rfl) (λi a b=>(h5 i a b).2)
 | succ n ih =>
  intro v x cs hs hr;cases v with
  | d y =>
   simp only[snap] at hs;injection hs with hs;subst hs
   cases hr with
   | d _ _ hr=>exact hr.mono (λb hb=>.inl hb) (λ_ _=>rfl)
  | undef=>simp[snap] at hs
  | it b=>simp[snap] at hs
  | omp b =>
   simp only[snap] at hs;split at hs
   case h_2=>simp at hs
   rename_i z ks vs hsl;injection hs with hs;subst hs
   cases hr with
   | omp _ r hb =>
    obtain⟨cb,hc,_,hrb,_⟩:=h.blk b _ hsl;rw[hb] at hc;injection hc with hc;subst hc
    obtain⟨es,clock,h1,h2,h3,h4,h5⟩:=hrb;have hp:Plus S φ st.hp (sites st.hp (n+1) (.omp b)) r:=.inr ⟨b,by simp[sites],_,hsl,hb⟩
    refine .mp ks vs r es clock hp h1 h2 h3 (λi a b=>(h4 i a b).1.mono (λb hb=>.inl hb) λ_ _=>rfl) (λi a b=>(h4 i a b).2) (λi a b=>(h5 i a b).1.mono (λb hb=>.inl hb) λ_ _=>rfl) (λi a b=>(h5 i a b).2)
  | own b off len sz =>
   simp only[snap] at hs;cases hsl:slot st.hp b with
   | none=>rw[hsl] at hs;simp at hs
   | some ob =>
    obtain⟨z,blk⟩:=ob;rw[hsl] at hs;obtain⟨cb,hc,_,hrb,_⟩:=h.blk b _ hsl;cases blk with
    | mp ks vs=>simp at hs
    | sit s p=>simp at hs
    | dc s xs =>
     simp only at hs;split at hs
     case isFalse=>simp at hs
     rename_i hg;obtain⟨rfl,hlen⟩:=hg;injection hs with hs;subst hs
     obtain⟨cells,t,css,h1,h2,h3,h4,h5⟩:=hrb;have hp:Plus S φ st.hp (sites st.hp (n+1) (.own b off len s)) cb:=.inr ⟨b,by simp[sites],_,hsl,hc⟩
     cases hr with
     | own0 _ _ _ x=>exact .sl s _ x 0 0 [] (by simp) (Nat.le_refl _) (by simp) (by simp) (by simp) (by simp)
     | own _ _ _ _ cb' c hb hcl hroom =>
      rw[hb] at hc;injection hc with hc;subst hc
      refine .sl s _ _ len c ((css.drop off).take len) (by simp;omega) hcl (by simp;omega) (λi a1 a2=>?_) (λc hc=>h4 c (List.mem_of_mem_drop (List.mem_of_mem_take hc))) (λh0=>⟨_,rfl,rfl,hp,λj u hj=>?_⟩)
      ·simp only[List.getElem_take,List.getElem_drop];exact(h3 (off+i) (by simp at a1;omega) (by simp at a2;omega)).mono (λb hb=>.inl hb) λ_ _=>rfl
      ·rw[jo rfl];rw[qI h1];have e1:=Jh (css.drop off) len j u hj;rw[Jm css h4 off,List.getElem?_drop] at e1;simpa using YO h5 e1
    | ac s xs =>
     simp only at hs;split at hs
     case isFalse=>simp at hs
     rename_i hg;obtain⟨rfl,hlen⟩:=hg;split at hs
     case h_2=>simp at hs
     rename_i ds hds;injection hs with hs;subst hs
     obtain⟨hdl,hdi⟩:=Yx hds;obtain⟨cells,t,css,h1,h2,h3,h4,h5⟩:=hrb;have hp:Plus S φ st.hp (sites st.hp (n+1) (.own b off len s)) cb:=.inr ⟨b,by simp[sites],_,hsl,hc⟩
     have hxl:((xs.drop off).take len).length=len:=by simp;omega
     cases hr with
     | own0 _ _ _ x =>
      have:ds=[]:=List.eq_nil_of_length_eq_zero (by rw[hdl];simp)
      subst this;exact .sl s _ x 0 0 [] (by simp) (Nat.le_refl _) (by simp) (by simp) (by simp) (by simp)
     | own _ _ _ _ cb' c hb hcl hroom =>
      rw[hb] at hc;injection hc with hc;subst hc
      refine .sl s _ _ len c ((css.drop off).take len) (by omega) hcl (by rw[hdl];simp;omega) (λi a1 a2=>?_) (λc hc=>h4 c (List.mem_of_mem_drop (List.mem_of_mem_take hc))) (λh0=>⟨_,rfl,rfl,hp,λj u hj=>?_⟩)
      ·have hi:i<((xs.drop off).take len).length:=by omega
       have:=ih _ _ (((css.drop off).take len)[i]) (hdi i hi a1) (by
        simp only[List.getElem_take,List.getElem_drop];exact h3 (off+i) (by simp at hi;omega) (by simp at a2;omega))
       refine this.mono (Plus.mono λy hy=>?_) λ_ _=>rfl
       simp only[sites,hsl];exact List.mem_cons_of_mem _ (List.mem_flatMap.2 ⟨_,List.getElem_mem hi,hy⟩)
      ·rw[jo rfl];rw[qI h1];have e1:=Jh (css.drop off) len j u hj;rw[Jm css h4 off,List.getElem?_drop] at e1;simpa using YO h5 e1
  | ptr b sz e p =>
   simp only[snap] at hs;split at hs
   case h_2=>simp at hs
   rename_i ob hsl;split at hs
   case h_2=>simp at hs
   rename_i v hv;split at hs
   case h_2=>simp at hs
   rename_i y hy;split at hs
   case h_2=>simp at hs
   rename_i d hd;split at hs
   case isTrue=>simp at hs
   rename_i htup;injection hs with hs;subst hs
   obtain⟨cb,hc,_,hrb,_⟩:=h.blk b _ hsl;obtain⟨cs1,hr1,_,hm1⟩:=Blk.get_sound hv hrb;obtain⟨cs2,hr2,hm2⟩:=zBP p hy hr1;have hp:Plus S φ st.hp (sites st.hp (n+1) (.ptr b sz e p)) cb:=.inr ⟨b,by simp[sites],_,hsl,hc⟩
   cases hr with
   | ptr _ _ _ _ cb' hb =>
    rw[hb] at hc;injection hc with hc;subst hc
    have hrd:=ih y d cs2 hd hr2;refine .dp d _ cs2 rfl hp (λj u hj=>?_) (hrd.mono (Plus.mono λs hs=>?_) λ_ _=>rfl) (by simpa using htup)
    ·rw[jo rfl];have:=hm1 _ u (hm2 j u hj);simpa[Nat.add_assoc] using this
    ·simp only[sites,hsl,hv,hy];exact List.mem_cons_of_mem _ hs
  | agg tag fs =>
   simp only[snap] at hs;split at hs
   case h_2=>simp at hs
   rename_i ds hds;injection hs with hs;subst hs
   obtain⟨hdl,hdi⟩:=Yx hds;cases hr with
   | agg _ _ css hl hr hz =>
    refine .agg tag ds css (by omega) (λi a1 a2=>?_) hz
    have hi:i<fs.length:=by omega
    refine(ih _ _ _ (hdi i hi a1) (hr i hi a2)).mono (Plus.mono λs hs=>?_) λ_ _=>rfl
    simp only[sites];exact List.mem_flatMap.2 ⟨_,List.getElem_mem hi,hs⟩
  | fn f x y =>
   simp only[snap] at hs;split at hs
   case h_2=>simp at hs
   rename_i dx dy hdx hdy;injection hs with hs;subst hs
   obtain⟨h1,h2⟩:=Yx hdx;obtain⟨h3,h4⟩:=Yx hdy;have agg:=λ{v:AV} {d:DV} {u:Value}=>snap_isAgg (hp:=st.hp) (n:=n) (v:=v) (d:=d) (u:=u)
   cases hr with
   | fn _ _ _ vx vy hx hy k1 k2 k3 k4 =>
    refine .fn f dx dy vx vy (by omega) (by omega) (λi a1 a2=>?_) (λi a1 a2=>agg (h2 i (by omega) a1) (k2 i (by omega) a2)) (λi a1 a2=>?_) (λi a1 a2=>agg (h4 i (by omega) a1) (k4 i (by omega) a2))
    ·refine(ih _ _ _ (h2 i (by omega) a1) (k1 i (by omega) a2)).mono (Plus.mono λs hs=>?_) λ_ _=>rfl
     simp only[sites];exact List.mem_append_left _ (List.mem_flatMap.2 ⟨_,List.getElem_mem _,hs⟩)
    ·refine(ih _ _ _ (h4 i (by omega) a1) (k3 i (by omega) a2)).mono (Plus.mono λs hs=>?_) λ_ _=>rfl
     simp only[sites];exact List.mem_append_right _ (List.mem_flatMap.2 ⟨_,List.getElem_mem _,hs⟩)
theorem snapV(h:Rel E base S φ st a w){n:Nat}{v:AV}{x:DV}(hs:snap st.hp n v=some x){u:Value}(hu:RAV E.L S φ w v u):RV E.L (Plus S φ st.hp (sites st.hp n v)) w x u:=by
 cases v with
 | undef=>cases n <;> simp[snap] at hs
 | d y =>
  have:x=y:=by cases n <;> (simp only[snap] at hs;injection hs with hs;exact hs.symm)
  subst this;exact RV.mono hu (λb hb=>.inl hb) λ_ _=>rfl
 | _ =>
  have hr:=snap_sound h _ _ _ _ hs hu.1;exact RV.of hr.notTup hr (snap_isAgg hs (.inr hu.2))
theorem zBa{hp:List (Option OB)}{b s:Nat}:(∃ob,slot (freeze1 hp b) s=some ob) ↔ ∃ob,slot hp s=some ob:=by
 unfold freeze1;cases hb:slot hp b with
 | none=>exact Iff.rfl
 | some ob =>
  constructor
  ·rintro⟨o,ho⟩;rcases Jp ho with ⟨rfl,_⟩ | ⟨_,ho⟩
   ·exact⟨ob,hb⟩
   ·exact⟨o,ho⟩
  ·rintro⟨o,ho⟩;by_cases e:s=b
   ·subst e;have hlt:s<hp.length:=by
     unfold slot at ho;rcases Nat.lt_or_ge s hp.length with hh | hh
     ·exact hh
     ·rw[List.getElem?_eq_none hh] at ho;simp at ho
    exact⟨_,by unfold slot;rw[List.getElem?_set_self hlt]⟩
   ·rw[J9 e];exact⟨o,ho⟩
theorem Rel.freezeL(h:Rel E base S φ st a w):∀(ss:List Nat),∃S',Rel E base S' φ { st with hp:=Am.freezeL st.hp ss } a w/\Grow base S S' w w/\∀x,S' x ↔ Plus S φ st.hp ss x:=by
 intro ss;induction ss generalizing S st with
 | nil=>exact⟨S,h,Grow.refl,λx=>⟨.inl,λhx=>hx.elim id λ⟨s,hs,_⟩=>by simp at hs⟩⟩
 | cons b ss ih =>
  obtain⟨S1,h1,g1,f1,f2⟩:=h.freeze1 b;obtain⟨S2,h2,g2,f3⟩:=ih h1;refine⟨S2,h2,g1.trans g2,λx=>(f3 x).trans ⟨λhx=>?_,λhx=>?_⟩⟩
  ·rcases hx with hx | ⟨s,hs,ob,hob,hφ⟩
   ·rcases f2 x hx with hx | ⟨ob,hob,hφ⟩
    ·exact .inl hx
    ·exact .inr ⟨b,by simp,ob,hob,hφ⟩
   ·obtain⟨ob',hob'⟩:=zBa.1 ⟨ob,hob⟩;exact .inr ⟨s,by simp[hs],ob',hob',hφ⟩
  ·rcases hx with hx | ⟨s,hs,ob,hob,hφ⟩
   ·exact .inl (g1.sub x hx)
   ·rcases List.mem_cons.1 hs with rfl | hs
    ·exact .inl (f1 ob hob x hφ)
    ·obtain⟨ob',hob'⟩:=zBa.2 ⟨ob,hob⟩;exact .inr ⟨s,hs,ob',hob',hφ⟩
theorem freeze1_clear(hp:List (Option OB))(s b:Nat):freeze1 ((hp.map (J0 s)).set s none) b=((freeze1 hp b).map (J0 s)).set s none:=by
 unfold freeze1;by_cases hbs:b=s
 ·subst hbs;have h1:slot ((hp.map (J0 b)).set b none) b=none:=by
   cases h:slot ((hp.map (J0 b)).set b none) b with
   | none=>rfl
   | some ob=>have:=zAq h;cases this
  rw[h1];cases slot hp b with
  | none=>rfl
  | some ob=>simp[List.map_set,List.set_set]
 ·rw[J9 hbs];cases hb:hp[b]? with
  | none =>
   have e1:slot hp b=none:=by simp[slot,hb]
   have e2:slot (hp.map (J0 s)) b=none:=by simp[slot,hb]
   rw[e1,e2]
  | some o =>
   cases o with
   | none =>
    have e1:slot hp b=none:=by simp[slot,hb]
    have e2:slot (hp.map (J0 s)) b=none:=by simp[slot,hb,J0]
    rw[e1,e2]
   | some ob =>
    obtain⟨z,blk⟩:=ob;have e1:slot hp b=some ⟨z,blk⟩:=by simp[slot,hb]
    have key:∃blk',(∀z,J0 s (some ⟨z,blk⟩)=some ⟨z,blk'⟩):=by
     cases blk with
     | ac t xs=>exact⟨.ac t (qM s xs),λ_=>rfl⟩
     | dc t xs=>exact⟨.dc t xs,λ_=>rfl⟩
     | mp ks vs=>exact⟨.mp ks vs,λ_=>rfl⟩
     | sit t p=>exact⟨.sit t p,λ_=>rfl⟩
    obtain⟨blk',hk⟩:=key;have e2:slot (hp.map (J0 s)) b=some ⟨z,blk'⟩:=by simp[slot,hb,hk]
    rw[e1,e2];simp only[List.map_set,hk];rw[List.set_comm _ _ hbs]
theorem qT(s:Nat):∀(ss:List Nat) (hp:List (Option OB)),Am.freezeL ((hp.map (J0 s)).set s none) ss=((Am.freezeL hp ss).map (J0 s)).set s none
 | [],hp=>rfl
 | b :: ss,hp=>by simp only[Am.freezeL];rw[freeze1_clear,qT s ss]
def SlC(w:World)(n:Nat)(flat:List Value)(u:Value):Prop :=
 ∃a c,u=.slice a n c/\n<=c/\(0<n->∃ad,a=some ad/\ad.spot=none/\∀j u,flat[j]? = some u->w.cell? (ad.add j)=some u)
theorem zA5(h:Rel E base S φ st a w){sz:Nat}{v:AV}{el:List DV×List Nat}(he:jg st.hp sz v=some el){u:Value}(hu:RAV E.L S φ w v u) :
  ∃css:List (List Value),css.length=el.1.length/\(∀i (h:i<el.1.length) (h':i<css.length),RD E.L (Plus S φ st.hp el.2) w el.1[i] css[i])/\(∀c∈css,c.length=sz)/\SlC w el.1.length css.flatten u:=by
 unfold jg at he;split at he
 ·injection he with he;subst he
  obtain⟨b,rfl⟩:=RV.nl (show RV E.L S w .nl u from hu)
  exact⟨[],rfl,by simp,by simp,b,0,rfl,Nat.le_refl _,by simp⟩
 ·rename_i s xs;split at he
  case isFalse=>simp at he
  rename_i e;subst e;injection he with he;subst he
  obtain⟨b,c,css,rfl,h1,h2,h3,h4,h5⟩:=RV.sl (show RV E.L S w (.sl s xs) u from hu)
  refine⟨css,h2,λi a1 a2=>(h3 i a1 a2).mono (λb hb=>.inl hb) λ_ _=>rfl,h4,b,c,rfl,h1,λh0=>?_⟩
  obtain⟨ad,e1,e2,_,e3⟩:=h5 h0;exact⟨ad,e1,e2,e3⟩
 ·rename_i b off len s;split at he
  case isFalse=>simp at he
  rename_i e;subst e;cases hsl:slot st.hp b with
  | none=>rw[hsl] at he;simp at he
  | some ob =>
   obtain⟨z,blk⟩:=ob;rw[hsl] at he;obtain⟨cb,hc,_,hrb,_⟩:=h.blk b _ hsl;have hsl':∀(css:List (List Value)) (cells:Array Value) (t:TypeId),w.heap[cb]? = some (.cells cells t (0,0))->(∀c∈css,c.length=s)->css.flatten <+: cells.toList->off+len<=css.length ->
     SlC w len ((css.drop off).take len).flatten u:=by
    intro css cells t h1 h4 h5 h6;rcases RAV.own hu with ⟨cb',c,hb,hcl,_,rfl⟩ | ⟨b',rfl,rfl⟩
    ·rw[hb] at hc;injection hc with hc;subst hc
     refine⟨_,_,rfl,hcl,λh0=>⟨_,rfl,rfl,λj u hj=>?_⟩⟩
     rw[jo rfl,qI h1];have e1:=Jh (css.drop off) len j u hj;rw[Jm css h4 off,List.getElem?_drop] at e1;simpa using YO h5 e1
    ·exact⟨_,_,rfl,Nat.le_refl _,by simp⟩
   cases blk with
   | mp ks vs=>simp at he
   | sit s p=>simp at he
   | dc s' xs =>
    simp only at he;split at he
    case isFalse=>simp at he
    rename_i hg;obtain⟨rfl,hlen⟩:=hg;injection he with he;subst he
    obtain⟨cells,t,css,h1,h2,h3,h4,h5⟩:=hrb;have hl:((xs.drop off).take len).length=len:=by simp;omega
    refine⟨(css.drop off).take len,by simp;omega,λi a1 a2=>?_,λc hc=>h4 c (List.mem_of_mem_drop (List.mem_of_mem_take hc)),by simp only[hl];exact hsl' css cells t h1 h4 h5 (by omega)⟩
    simp only[List.getElem_take,List.getElem_drop];exact(h3 (off+i) (by simp at a1;omega) (by simp at a2;omega)).mono (λb hb=>.inl hb) λ_ _=>rfl
   | ac s' xs =>
    simp only at he;split at he
    case isFalse=>simp at he
    rename_i hg;obtain⟨rfl,hlen⟩:=hg;split at he
    case h_2=>simp at he
    rename_i ds hds;injection he with he;subst he
    obtain⟨hdl,hdi⟩:=Yx hds;obtain⟨cells,t,css,h1,h2,h3,h4,h5⟩:=hrb;have hl:((xs.drop off).take len).length=len:=by simp;omega
    refine⟨(css.drop off).take len,by rw[hdl];simp;omega,λi a1 a2=>?_,λc hc=>h4 c (List.mem_of_mem_drop (List.mem_of_mem_take hc)),by simp only[hdl,hl];exact hsl' css cells t h1 h4 h5 (by omega)⟩
    have hi:i<((xs.drop off).take len).length:=by simp only at a1;omega
    have:=snap_sound h _ _ _ (((css.drop off).take len)[i]) (hdi i hi a1) (by
     simp only[List.getElem_take,List.getElem_drop];exact h3 (off+i) (by simp at hi;omega) (by simp at a2;omega))
    exact this.mono (Plus.mono λy hy=>List.mem_flatMap.2 ⟨_,List.getElem_mem hi,hy⟩) λ_ _=>rfl
 ·simp at he
theorem SlC.lenOf{n:Nat}{flat:List Value}{u:Value}(h:SlC w n flat u):(Builtin.lenOf u).run P w=.ok n w:=by obtain⟨a,c,rfl,_⟩:=h;rfl
theorem SlC.first{n m sz:Nat}{flat:List Value}{u:Value}(h:SlC w n flat u)(hm:m<=n)(hl:flat.length=n * sz):(Builtin.firstCells sz m u).run P w=.ok (flat.take (m * sz)).toArray w:=by
 obtain⟨a,c,rfl,_,hc⟩:=h;rcases Nat.eq_zero_or_pos n with rfl | h0
 ·have:m=0:=by omega
  subst this;cases a with
  | none=>simp[Builtin.firstCells]
  | some b =>
   have:=run_firstCells_some (P:=P) (w:=w) sz 0 b 0 c [] (by simp) (by simp)
   simpa using this
 ·obtain⟨ad,rfl,_,hcell⟩:=hc h0;refine run_firstCells_some (P:=P) (w:=w) sz m ad n c _ ?_ λj v hj=>?_
  ·rw[List.length_take,hl];exact Nat.min_eq_left (Nat.mul_le_mul_right _ hm)
  ·rw[List.getElem?_take] at hj;split at hj
   ·exact hcell j v hj
   ·simp at hj
end
end Go.Am
namespace Go.Am
open Go.Proofs
open Go Go.RowKit
def splice{α:Type}(l:List α)(o:Nat)(n:List α):List α:=l.take o++n++l.drop (o+n.length)
theorem jv{α:Type}{l:List α}{o:Nat}{n:List α}(h:o+n.length<=l.length):(splice l o n).length=l.length:=by simp[splice];omega
theorem getElem?_splice{α:Type}{l:List α}{o:Nat}{n:List α}(h:o+n.length<=l.length)(j:Nat):(splice l o n)[j]? = if j<o then l[j]? else if j<o+n.length then n[j - o]? else l[j]?:=by
 have h1:(l.take o).length=o:=by simp;omega
 unfold splice;by_cases a:j<o
 ·rw[if_pos a,List.getElem?_append_left (by simp;omega),List.getElem?_append_left (by omega),List.getElem?_take,if_pos a]
 ·rw[if_neg a];by_cases b:j<o+n.length
  ·rw[if_pos b,List.getElem?_append_left (by simp;omega),List.getElem?_append_right (by omega),h1]
  ·rw[if_neg b,List.getElem?_append_right (by simp;omega),List.getElem?_drop]
   congr 1;simp;omega
theorem zAo{α:Type}{l b n:List α}{p o:Nat}(hb:∀j,j<b.length->b[j]? = l[p+j]?)(hp:p+b.length<=l.length)(ho:o+n.length<=b.length):splice l p (splice b o n)=splice l (p+o) n:=by
 have h1:(splice b o n).length=b.length:=jv ho;apply List.ext_getElem?;intro j;have e1:=getElem?_splice (l:=l) (o:=p) (n:=splice b o n) (by omega) j
 have e2:=getElem?_splice (l:=l) (o:=p+o) (n:=n) (by omega) j
 rw[e1,e2,h1];by_cases a:j<p
 ·rw[if_pos a,if_pos (by omega)]
 ·rw[if_neg a];by_cases c:j<p+b.length
  ·rw[if_pos c,getElem?_splice ho];by_cases d:j<p+o
   ·rw[if_pos (by omega),if_pos d,hb _ (by omega)]
    congr 1;omega
   ·rw[if_neg (by omega),if_neg d]
    by_cases e:j<p+o+n.length
    ·rw[if_pos (by omega),if_pos e];congr 1;omega
    ·rw[if_neg (by omega),if_neg e,hb _ (by omega)];congr 1;omega
  ·rw[if_neg c,if_neg (by omega),if_neg (by omega)]
theorem set_splice{α:Type}{css:List (List α)}{i:Nat}{n:List α}(h:i<css.length)(hn:n.length=css[i].length):(css.set i n).flatten=splice css.flatten (((css.map (·.length)).take i).sum) n:=by rw[zAJ n css i h,splice,hn]
theorem take_sum_le{l:List Nat}{i:Nat}(h:i<l.length):(l.take i).sum+l[i]<=l.sum:=by
 have:l.sum=(l.take i).sum+(l.drop i).sum:=by rw[<-List.sum_append_nat,List.take_append_drop]
 rw[this,List.drop_eq_getElem_cons h,List.sum_cons];omega
theorem zAO{α:Type}(css:List (List α)):css.flatten.length=(css.map (·.length)).sum:=List.length_flatten
theorem sum_const{sz:Nat}{α:Type}{css:List (List α)}(hz:∀c∈css,c.length=sz):(css.map (·.length))=List.replicate css.length sz:=by
 apply List.ext_getElem
 ·simp
 ·intro i a b;simp only[List.getElem_map,List.getElem_replicate];exact hz _ (List.getElem_mem _)
section
variable{P:Program}{E:Env}{base:Nat}{S S':Nat->Prop}{φ:Nat->Option Nat}{st:St}{a:Act}{w w':World}
theorem getsetF{tag i:Nat}{v x:AV}{cs:List Value}(h:getF tag i v=some x)(hr:RA E.L S φ w v cs) :
  ∃(css:List (List Value)) (hi:i<css.length),cs=css.flatten/\css.map (·.length)=E.L tag/\RA E.L S φ w x css[i] /\
   ∀y ncs v',setF tag i y v=some v'->RA E.L S φ w y ncs->ncs.length=css[i].length->RA E.L S φ w v' (css.set i ncs).flatten/\v'.isAgg=true:=by
 unfold getF at h;split at h
 ·rename_i t fs;split at h
  case isFalse=>simp at h
  rename_i e;subst e;split at h
  case h_2=>simp at h
  rename_i z hz;injection h with h;subst h
  cases hr with
  | d _ _ hr =>
   cases hr with
   | agg _ _ css hl hp hsz =>
    obtain⟨hlt,rfl⟩:=List.getElem?_eq_some_iff.1 hz;have hc:i<css.length:=by omega
    refine⟨css,hc,rfl,hsz,.d _ _ (hp i hlt hc),λy ncs v' hs hy hn=>?_⟩
    have hsz':(css.set i ncs).map (·.length)=E.L t:=by
     rw[List.map_set,hn,<-hsz];apply List.ext_getElem
     ·simp
     ·intro k a b;rw[List.getElem_set];split
      ·rename_i e;subst e;simp
      ·rfl
    unfold setF at hs;simp only[if_true,hlt] at hs;cases y with
    | d y' =>
     simp only[Option.some.injEq] at hs;subst hs;cases hy with
     | d _ _ hy =>
      refine⟨.d _ _ (.agg t _ _ (by simpa using hl) (λk a b=>?_) hsz'),rfl⟩
      simp only[List.getElem_set];split
      ·exact hy
      ·exact hp k (by simpa using a) (by simpa using b)
    | _ =>
     simp only[Option.some.injEq] at hs;subst hs;refine⟨.agg t _ _ (by simpa using hl) (λk a b=>?_) hsz',rfl⟩
     simp only[List.getElem_set,List.getElem_map];split
     ·exact hy
     ·exact .d _ _ (hp k (by simpa using a) (by simpa using b))
 ·rename_i t fs;split at h
  case isFalse=>simp at h
  rename_i e;subst e;cases hr with
  | agg _ _ css hl hp hsz =>
   obtain⟨hlt,rfl⟩:=List.getElem?_eq_some_iff.1 h;have hc:i<css.length:=by omega
   refine⟨css,hc,rfl,hsz,hp i hlt hc,λy ncs v' hs hy hn=>?_⟩
   have hsz':(css.set i ncs).map (·.length)=E.L t:=by
    rw[List.map_set,hn,<-hsz];apply List.ext_getElem
    ·simp
    ·intro k a b;rw[List.getElem_set];split
     ·rename_i e;subst e;simp
     ·rfl
   unfold setF at hs;simp only[if_true,hlt,Option.some.injEq] at hs;subst hs;exact mkAgg_sound (by simpa using hl) (λk a b=>by
    simp only[List.getElem_set];split
    ·exact hy
    ·exact hp k (by simpa using a) (by simpa using b)) hsz'
 ·simp at h
theorem setP_sound:∀(p:List (Nat×Nat)) {new v y:AV} {cs ncs:List Value},setP E.L p new v=some y->RA E.L S φ w v cs->RA E.L S φ w new ncs->new≠.undef->Jb E.L y=cs.length ->
  RA E.L S φ w y (splice cs (offP E.L p) ncs)/\offP E.L p+ncs.length<=cs.length/\y≠.undef
 | [],new,v,y,cs,ncs,h,hr,hn,hu,hc=>by
  simp[setP] at h;subst h;have hl:=hn.len hu;rw[hc] at hl;have:splice cs (offP E.L []) ncs=ncs:=by simp[splice,offP,hl]
  rw[this];exact⟨hn,by simp[offP];omega,hu⟩
 | (tag,i) :: p,new,v,y,cs,ncs,h,hr,hn,hu,hc=>by
  simp only[setP] at h;split at h
  case h_2=>simp at h
  rename_i x hx;split at h
  case h_2=>simp at h
  rename_i y' hy';split at h
  case isFalse=>simp at h
  rename_i hcl;obtain⟨css,hi,rfl,hsz,hrx,hset⟩:=getsetF hx hr;have hci:(E.L tag).getD i 0=css[i].length:=by rw[<-hsz];simp[hi]
  obtain⟨h1,h2,h3⟩:=setP_sound p hy' hrx hn hu (by rw[hcl,hci])
  obtain⟨h4,h5⟩:=hset _ _ _ h h1 (jv h2);have hle:((css.map (·.length)).take i).sum+css[i].length<=css.flatten.length:=by
   rw[zAO];have:=take_sum_le (l:=css.map (·.length)) (i:=i) (by simpa using hi)
   simpa using this
  have hat:∀j,j<css[i].length->css[i][j]? = css.flatten[((css.map (·.length)).take i).sum+j]?:=λj hj=>(Y8 css i hi j hj).symm
  rw[set_splice hi (jv h2),zAo hat hle h2,hsz] at h4;refine⟨by simpa[offP] using h4,?_,?_⟩
  ·rw[hsz] at hle;simp only[offP];omega
  ·rintro rfl;simp[AV.isAgg] at h5
theorem Blk.set_sound{sz e:Nat}{blk blk':Blk}{v:AV}{cb:Nat}(h:blk.set sz e v=some blk')(hr:RB E.L S φ w blk cb){ncs:List Value}(hv:RA E.L S φ w v ncs)(hn:ncs.length=sz) :
  ∃(cells:Array Value) (t:TypeId),w.heap[cb]? = some (.cells cells t (0,0))/\e * sz+sz<=cells.size /\
   (∀w',Keep S S φ φ w w'->w'.heap[cb]? = some (.cells (splice cells.toList (e * sz) ncs).toArray t (0,0))->RB E.L S φ w' blk' cb):=by
 have hpre:∀{css:List (List Value)} {cells:Array Value} (he:e<css.length) (h4:∀c∈css,c.length=sz) (h5:css.flatten <+: cells.toList),e * sz+sz<=cells.size/\(css.set e ncs).flatten <+: splice cells.toList (e * sz) ncs:=by
  intro css cells he h4 h5;have hc:css[e].length=sz:=h4 _ (List.getElem_mem he);have hsum:((css.map (·.length)).take e).sum=e * sz:=by rw[sum_const h4];simp[List.take_replicate,Nat.min_eq_left (Nat.le_of_lt he)]
  have hle:e * sz+sz<=css.flatten.length:=by
   have:=take_sum_le (l:=css.map (·.length)) (i:=e) (by simpa using he)
   rw[hsum] at this;rw[zAO];simpa[hc] using this
  have hle2:css.flatten.length<=cells.size:=by simpa using h5.length_le
  refine⟨by omega,?_⟩
  rw[set_splice he (by rw[hn,hc]),hsum]
  obtain⟨r,hr⟩:=h5;refine⟨r,?_⟩;rw[<-hr];unfold splice;rw[List.take_append_of_le_length (by omega),List.drop_append_of_le_length (by rw[hn];omega)]
  simp
 unfold Blk.set at h;split at h
 ·rename_i s xs;split at h
  case isFalse=>simp at h
  rename_i hs;subst hs;split at h
  case isFalse=>simp at h
  rename_i hlt;obtain⟨cells,t,css,h1,h2,h3,h4,h5⟩:=hr;have he:e<css.length:=by omega
  obtain⟨p1,p2⟩:=hpre he h4 h5;refine⟨cells,t,h1,p1,λw' k hw=>?_⟩
  have hz:∀c∈css.set e ncs,c.length=s:=λc hc=>by
   rcases List.mem_or_eq_of_mem_set hc with hc | rfl
   ·exact h4 c hc
   ·exact hn
  split at h
  ·rename_i y;injection h with h;subst h
   cases hv with
   | d _ _ hv =>
    refine⟨_,t,css.set e ncs,hw,by simpa using h2,λi a b=>?_,hz,by simpa using p2⟩
    simp only[List.getElem_set];split
    ·exact hv.mono k.sub k.heap
    ·exact(h3 i (by simpa using a) (by simpa using b)).mono k.sub k.heap
  ·injection h with h;subst h
   refine⟨_,t,css.set e ncs,hw,by simpa using h2,λi a b=>?_,hz,by simpa using p2⟩
   simp only[List.getElem_set,List.getElem_map];split
   ·exact hv.mono k
   ·exact .d _ _ ((h3 i (by simpa using a) (by simpa using b)).mono k.sub k.heap)
 ·rename_i s xs;split at h
  case isFalse=>simp at h
  rename_i hs;subst hs;split at h
  case isFalse=>simp at h
  rename_i hlt;obtain⟨cells,t,css,h1,h2,h3,h4,h5⟩:=hr;have he:e<css.length:=by omega
  obtain⟨p1,p2⟩:=hpre he h4 h5;refine⟨cells,t,h1,p1,λw' k hw=>?_⟩
  injection h with h;subst h
  refine⟨_,t,css.set e ncs,hw,by simpa using h2,λi a b=>?_,λc hc=>?_,by simpa using p2⟩
  ·simp only[List.getElem_set];split
   ·exact hv.mono k
   ·exact(h3 i (by simpa using a) (by simpa using b)).mono k
  ·rcases List.mem_or_eq_of_mem_set hc with hc | rfl
   ·exact h4 c hc
   ·exact hn
 ·simp at h
theorem But.setRow{cb:Nat}{cur new:Array Value}{t:TypeId}(h:w.heap[cb]? = some (.cells cur t (0,0)))(hs:new.size=cur.size):But cb w (w.setRow cb new) :=
 ⟨rfl,rfl,rfl,by simp,λk _ hne=>setRow_other w cb k new hne,λn ⟨cs,t',h1,h2⟩=>by
  rw[h] at h1;injection h1 with h1
  injection h1 with e1 e2 e3;subst e1
  exact⟨new,t,setRow_heap w cb cur new t (0,0) h,by omega⟩⟩
theorem zBV{v:AV}{b:Nat}{blk blk0:Blk}(h:slot st.hp b=some ⟨false,blk0⟩)(dst:Option Tmp)(s:Nat) :
  zo { v,upd:=some (b,blk) } dst s st={ tm:=putT st.tm dst v,hp:=st.hp.set b (some ⟨false,blk⟩) }:=by
 simp[zo,freezeL,updB,h,kilB]
theorem storeE_sound(hD:DOK P E)(h:Rel E base S φ st a w){t:TypeId}{p x:AV}{u v:Value}(hu:RAV E.L S φ w p u)(hv:RAV E.L S φ w x v){ef:Eff}(hs:Ym E t st.hp p x=some ef)(dst:Option Tmp)(s:Nat) :
  ef.new=none/\∃w',(Instr.storeAt t u v).run P w=.ok () w'/\Rel E base S φ (zo ef dst s st) (a.put dst undef) w'/\Grow base S S w w':=by
 unfold Ym at hs;obtain⟨td,htd,hs1⟩:=bind_some hs;clear hs;have ht:=hD t td htd;split at hs1
 case h_2=>simp at hs1
 rename_i b sz e q;obtain⟨ob,hob,hs2⟩:=bind_some hs1;clear hs1;obtain⟨hfz,hs3⟩:=zJ hs2;clear hs2;obtain⟨hfit,hs4⟩:=zJ hs3;clear hs3;obtain⟨v0,hget,hs5⟩:=bind_some hs4;clear hs4;obtain⟨y,hset,hs6⟩:=bind_some hs5;clear hs5;obtain⟨hcl,hs7⟩:=zJ hs6;clear hs6;obtain⟨blk,hblk,hs8⟩:=bind_some hs7;clear hs7;injection hs8 with hs8;subst hs8
 obtain⟨z,blk0⟩:=ob;simp only[Bool.not_eq_true'] at hfz;subst hfz;obtain⟨cb,rfl,hφ⟩:=hu.ptr;obtain⟨cb',hφ',_,hrb,_⟩:=h.blk b _ hob;rw[hφ] at hφ';injection hφ' with hφ';subst hφ'
 obtain⟨hsz,hag,hst⟩:=jW ht hfit;have hxu:x≠.undef:=by rintro rfl;simp[stores] at hst
 obtain⟨hra,_⟩:=hv.cells hst;obtain⟨cs0,hr0,hl0,hm0⟩:=Blk.get_sound hget hrb;simp only[decide_eq_true_eq] at hcl;obtain⟨hy,hoff,hyu⟩:=setP_sound q hset hr0 hra hxu (by rw[hcl,hl0])
 obtain⟨cells,ty,hh,hfitc,hnew⟩:=Blk.set_sound hblk hrb hy (by rw[jv hoff,hl0])
 have hcur:∀j,j<cs0.length->cs0[j]? = cells.toList[e * sz+j]?:=λj hj=>by have:=hm0 j cs0[j] (List.getElem?_eq_getElem hj);rw[qI hh] at this;rw[List.getElem?_eq_getElem hj];simpa using this.symm
 have hrow:splice cells.toList (e * sz) (splice cs0 (offP E.L q) (vcs v))=splice cells.toList (e * sz+offP E.L q) (vcs v):=zAo hcur (by rw[hl0,Array.length_toList];omega) hoff
 rw[hrow] at hnew;have hvl:(vcs v).length=td.size:=by rw[hra.len hxu,hsz]
 have hb:e * sz+offP E.L q+(vcs v).length<=cells.size:=by omega
 have hrun:=run_storeCells_at (P:=P) cb (e * sz+offP E.L q) ty (vcs v) 0 cells w hh (by omega) hra.oneCell
 simp only[Nat.add_zero] at hrun;have hsplice:(cells.toList.take (e * sz+offP E.L q)++vcs v++cells.toList.drop (e * sz+offP E.L q+(vcs v).length))=splice cells.toList (e * sz+offP E.L q) (vcs v):=rfl;rw[hsplice] at hrun;have hbut:But cb w (w.setRow cb (splice cells.toList (e * sz+offP E.L q) (vcs v)).toArray):=But.setRow hh (by rw[List.size_toArray,jv (by simpa using hb)];simp)
 refine⟨rfl,_,?_,?_,hbut.grow h.lt ?_ h.base ?_⟩
 ·have hc:v.cells.size=td.size:=by rw[<-hvl];simp[vcs]
  simp only[Instr.storeAt,Instr.sureAddr,storeVar,Sem.run_bind,Sem.run_pure,Result.andThen_ok,ht.sizeOf w];rw[if_neg (by simp[hc])]
  exact hrun
 ·rw[zBV hob];have:=h.write hob hφ hbut (hnew _ (hbut.keep h.lt (λhS=>?_)) (setRow_heap w cb cells _ ty (0,0) hh))
  ·exact this.put dst (v:=.d (.tup [])) ⟨[],rfl,rfl,λi a=>by simp at a⟩
  ·obtain⟨c,hc,_,_,hS'⟩:=h.blk b _ hob;rw[hφ] at hc;injection hc with hc;subst hc
   simpa using hS'.1 hS
 ·intro hS;obtain⟨c,hc,_,_,hS'⟩:=h.blk b _ hob;rw[hφ] at hc;injection hc with hc;subst hc
  simpa using hS'.1 hS
 ·obtain⟨c,hc,hbc,_⟩:=h.blk b _ hob;have e:cb=c:=Option.some.inj (hφ.symm.trans hc);omega
end
end Go.Am
namespace Go.Am
open Go.Proofs
open Go Go.RowKit
section
variable{P:Program}{E:Env}{base:Nat}{S S':Nat->Prop}{φ:Nat->Option Nat}{st:St}{a:Act}{w w':World}
theorem But.setObj{cb:Nat}(w:World)(o:Obj)(hr:∀cs t fr,w.heap[cb]?≠some (.cells cs t fr)):But cb w { w with heap:=w.heap.setIfInBounds cb o } :=
 ⟨rfl,rfl,rfl,by simp,λk _ hne=>by simp[Ne.symm hne],λn ⟨cs,t,h1,_⟩=>absurd h1 (hr cs t _)⟩
theorem putK_sound{td:TD}{d:TypeDesc}(hd:keyD td d){k v:DV}(hk:jl td k=true){u:Value}(hu:RV E.L S w k u) :
  ∀(ks vs:List DV) (es:List MapEntry) (n:Nat) (r:List DV×List DV),putK k v ks vs=some r->es.length=ks.length->es.length=vs.length ->
   (∀i (h:i<ks.length) (h':i<es.length),RD E.L S w ks[i] (vcs es[i].key)/\aggV es[i].key=ks[i].isAgg) ->
   (Instr.findNow d u es n=some none/\r=(ks++[k],vs++[v])) \/
   ∃(i:Nat) (h:i<es.length) (h':i<ks.length),Instr.findNow d u es n=some (some (n+i,es[i].val))/\r=(ks.set i k,vs.set i v)/\j6 k ks[i]=some true
 | [],vs,es,n,r,h,h1,h2,h3=>by
  have:es=[]:=List.eq_nil_of_length_eq_zero h1;subst this;have:vs=[]:=List.eq_nil_of_length_eq_zero h2.symm;subst this;simp[putK] at h;subst h;exact .inl ⟨rfl,rfl⟩
 | x :: ks,[],es,n,r,h,h1,h2,h3=>by simp[putK] at h
 | x :: ks,y :: vs,[],n,r,h,h1,h2,h3=>by simp at h1
 | x :: ks,y :: vs,e :: es,n,r,h,h1,h2,h3=>by
  simp only[putK] at h;obtain⟨b,hb,h⟩:=bind_some h;have h0:=h3 0 (by simp) (by simp)
  simp only[List.getElem_cons_zero] at h0;have hs:=zAr hd hk hb hu (RV.of h0.1.notTup h0.1 h0.2);cases b with
  | true =>
   simp only[Option.some.injEq] at h;subst h;exact .inr ⟨0,by simp,by simp,by simp[Instr.findNow,hs],rfl,hb⟩
  | false =>
   simp only at h;obtain⟨r',hr',h⟩:=bind_some h;injection h with h;subst h
   rcases putK_sound hd hk hu ks vs es (n+1) r' hr' (by simpa using h1) (by simpa using h2) (λi a b=>h3 (i+1) (by simp;omega) (by simp;omega)) with ⟨e1,rfl⟩ | ⟨i,a,b,e1,rfl,e3⟩
   ·exact .inl ⟨by simp[Instr.findNow,hs,e1],rfl⟩
   ·refine .inr ⟨i+1,by simp;omega,by simp;omega,?_,rfl,e3⟩
    simp only[Instr.findNow,hs,e1];simp[Nat.add_assoc,Nat.add_comm 1 i]
theorem sameBits_of{td:TD}{k x:DV}(hk:jl td k=true)(h:j6 k x=some true){u v:Value}(hu:RV E.L S w k u)(hv:RV E.L S w x v):Instr.sameBits 10000 v u=true:=by
 unfold j6 at h;split at h
 ·have e1:=RV.bool hu;have e2:=RV.bool hv;subst e1;subst e2;simp only[Option.some.injEq,beq_iff_eq] at h;simp[Instr.sameBits,h]
 ·have e1:=RV.int hu;have e2:=RV.int hv;subst e1;subst e2;split at h
  case isFalse=>simp at h
  rename_i e;subst e;simp only[Option.some.injEq,beq_iff_eq] at h;simp[Instr.sameBits,h]
 ·have e1:=RV.str hu;have e2:=RV.str hv;subst e1;subst e2;simp only[Option.some.injEq,beq_iff_eq] at h;rename_i p q;have:p=q:=by rw[Go.ByteArray.toList_eq,Go.ByteArray.toList_eq] at h;obtain⟨x⟩:=p;obtain⟨y⟩:=q;rw[show x=y from Array.ext' h]
  subst this;simp only[Instr.sameBits];exact(MapKept.bytes_beq _ _).2 rfl
 ·simp at h
theorem qd(hD:DOK P E)(h:Rel E base S φ st a w){t:TypeId}{m k x:AV}{um uk ux:Value}(hum:RAV E.L S φ w m um)(huk:RAV E.L S φ w k uk)(hux:RAV E.L S φ w x ux){ef:Eff}
  (hs:jP E t st.hp m k x=some ef) (dst:Option Tmp) (s:Nat) :
  ef.new=none/\∃w',(Instr.mapUpdate t um uk ux).run P w=.ok () w'/\Rel E base S φ (zo ef dst s st) (a.put dst undef) w'/\Grow base S S w w':=by
 unfold jP at hs;obtain⟨td,htd,hs1⟩:=bind_some hs;clear hs;have ht:=hD t td htd;split at hs1
 case h_2=>simp at hs1
 rename_i kt et hkk;obtain⟨kd,hkd,hs2⟩:=bind_some hs1;clear hs1;obtain⟨ed,hed,hs3⟩:=bind_some hs2;clear hs2;split at hs3
 case h_2=>simp at hs3
 rename_i b k' v';obtain⟨hkey,hs4⟩:=zJ hs3;clear hs3;obtain⟨hfit,hs5⟩:=zJ hs4;clear hs4;split at hs5
 case h_2=>simp at hs5
 rename_i ks vs hsl;obtain⟨r,hr,hs6⟩:=bind_some hs5;clear hs5;injection hs6 with hs6;subst hs6
 have hmt:=ht.desc;simp only[hkk,Dsc] at hmt;obtain⟨cb,rfl,hφ⟩:=hum.omp;obtain⟨cb',hφ',hbase,hrb,hS⟩:=h.blk b _ hsl;have e:cb=cb':=Option.some.inj (hφ.symm.trans hφ');subst e;have hnS:¬S cb:=λhh=>by simpa using hS.1 hh
 obtain⟨es,clock,h1,h2,h3,h4,h5⟩:=hrb;obtain⟨d,hd1,hd2,hd3⟩:=zBd (hD kt kd hkd) hkey (show RV E.L S w k' uk from huk)
 have hck:(Instr.checkKey false 10000 kt uk).run P w=.ok () w:=MapKept.run_checkKey hd1 hd3 false 9999;have hput:=putK_sound (E:=E) hd2 hkey (show RV E.L S w k' uk from huk) ks vs es 0 r hr h2 h3 h4
 have hkr:RD E.L S w k' (vcs uk)/\aggV uk=k'.isAgg:=by
  have:k'.isTup=false:=by unfold jl at hkey;split at hkey <;> first | rfl | simp at hkey
  exact RV.rd this huk
 have hvst:=(jW (hD et ed hed) hfit).2.2;have hvr:RD E.L S w v' (vcs ux)/\aggV ux=v'.isAgg:=by
  have:v'.isTup=false:=by cases v' <;> first | rfl | simp[stores] at hvst
  exact RV.rd this hux
 have hnc:∀cs t fr,w.heap[cb]?≠some (.cells cs t fr):=λcs t fr hh=>by rw[h1] at hh;cases hh
 have fin:∀(es':List MapEntry) (clock':Nat),(Instr.mapUpdate t (.map (some cb)) uk ux).run P w=.ok () { w with heap:=w.heap.setIfInBounds cb (.map es'.toArray clock') } ->
   es'.length=r.1.length->es'.length=r.2.length->(∀i (h:i<r.1.length) (h':i<es'.length),RD E.L S w r.1[i] (vcs es'[i].key)/\aggV es'[i].key=r.1[i].isAgg) ->
   (∀i (h:i<r.2.length) (h':i<es'.length),RD E.L S w r.2[i] (vcs es'[i].val)/\aggV es'[i].val=r.2[i].isAgg) ->
   ∃w',(Instr.mapUpdate t (.map (some cb)) uk ux).run P w=.ok () w'/\Rel E base S φ (zo { v:=.d (.tup []),upd:=some (b,.mp r.1 r.2) } dst s st) (a.put dst undef) w'/\Grow base S S w w':=by
  intro es' clock' hrun l1 l2 r1 r2;have hbut:=But.setObj (cb:=cb) w (.map es'.toArray clock') hnc;have k:=hbut.keep (φ:=φ) h.lt hnS;refine⟨_,hrun,?_,hbut.grow h.lt hnS h.base hbase⟩;rw[zBV hsl];have hlt:cb<w.heap.size:=(Array.getElem?_eq_some_iff.1 h1).1;have:=h.write hsl hφ hbut (blk:=.mp r.1 r.2) ⟨es',clock',by simp[hlt],l1,l2,λi a b=>⟨(r1 i a b).1.mono k.sub k.heap,(r1 i a b).2⟩,λi a b=>⟨(r2 i a b).1.mono k.sub k.heap,(r2 i a b).2⟩⟩
  exact this.put dst (v:=.d (.tup [])) ⟨[],rfl,rfl,λi a=>by simp at a⟩
 refine⟨rfl,?_⟩;rcases hput with ⟨e1,rfl⟩ | ⟨i,hi,hi',e1,rfl,e3⟩
 ·refine fin (es++[{ key:=uk,val:=ux,born:=clock }]) (clock+1) ?_ (by simp[h2]) (by simp[h3]) (λi a b=>?_) (λi a b=>?_)
  ·have hfk:=MapKept.run_findKey (P:=P) (w:=w) hd1 e1;have hp:es.toArray.push ({ key:=uk,val:=ux,born:=clock }:MapEntry)=(es++[({ key:=uk,val:=ux,born:=clock }:MapEntry)]).toArray:=by simp
   rw[<-hp];simp[Instr.mapUpdate,run_underlying hmt,MapKept.run_getObj_map h1,hck,hfk,MapKept.run_setObj_map _ h1]
  ·by_cases hlt:i<ks.length
   ·simp only[List.getElem_append_left hlt,List.getElem_append_left (show i<es.length by omega)]
    exact h4 i hlt (by omega)
   ·have:i=ks.length:=by simp at a;omega
    subst this;simp only[List.getElem_append_right (Nat.le_refl _),List.getElem_append_right (show es.length<=ks.length by omega)]
    simpa[h2] using hkr
  ·by_cases hlt:i<vs.length
   ·simp only[List.getElem_append_left hlt,List.getElem_append_left (show i<es.length by omega)]
    exact h5 i hlt (by omega)
   ·have:i=vs.length:=by simp at a;omega
    subst this;simp only[List.getElem_append_right (Nat.le_refl _),List.getElem_append_right (show es.length<=vs.length by omega)]
    simpa[h3] using hvr
 ·have hold:=h4 i hi' hi;have hsb:=sameBits_of hkey e3 (show RV E.L S w k' uk from huk) (RV.of hold.1.notTup hold.1 hold.2)
  refine fin (es.modify i λe=>{ e with key:=uk,val:=ux }) clock ?_ (by simp[h2]) (by simp[h3]) (λj a b=>?_) (λj a b=>?_)
  ·have hfk:=MapKept.run_findKey (P:=P) (w:=w) hd1 e1;have hp:(es.toArray.modify i λe:MapEntry=>{ e with key:=uk,val:=ux })=(es.modify i λe:MapEntry=>{ e with key:=uk,val:=ux }).toArray:=by simp
   rw[<-hp];have hget:(((es.toArray[i]?).map (·.key)).getD uk)=es[i].key:=by simp[hi]
   have hks:(Instr.keyThatStays es[i].key uk).run P w=.ok uk w:=by simp[Instr.keyThatStays,hsb]
   simp only[Nat.zero_add] at hfk;simp only[Instr.mapUpdate,Sem.run_bind,run_underlying hmt,Result.andThen_ok,MapKept.run_getObj_map h1,hck,hfk,hget,hks,MapKept.run_setObj_map _ h1]
  ·simp only[List.getElem_set,List.getElem_modify];split
   ·exact hkr
   ·exact h4 j (by simpa using a) (by simpa using b)
  ·simp only[List.getElem_set,List.getElem_modify];split
   ·exact hvr
   ·exact h5 j (by simpa using a) (by simpa using b)
theorem nextE_sound(h:Rel E base S φ st a w){x:AV}{u:Value}(hu:RAV E.L S φ w x u){b:Bool}{ef:Eff}(hs:Q6 st.hp b x=some ef)(ty:TypeId)(dst:Option Tmp)(s:Nat) :
  ef.new=none/\∃r w',(Instr.next u b ty).run P w=.ok r w'/\Rel E base S φ (zo ef dst s st) (a.put dst r) w'/\Grow base S S w w':=by
 unfold Q6 at hs;split at hs
 case h_2=>simp at hs
 rename_i c;obtain⟨hb,hs1⟩:=zJ hs;clear hs;subst hb;split at hs1
 case h_2=>simp at hs1
 rename_i str pos hsl;obtain⟨cb,rfl,hφ⟩:=hu.it';obtain⟨cb',hφ',hbase,hrb,hS⟩:=h.blk c _ hsl;have e:cb=cb':=Option.some.inj (hφ.symm.trans hφ');subst e;have hnS:¬S cb:=λhh=>by simpa using hS.1 hh
 have hget:(getObj cb).run P w=.ok (.stringIter str pos) w:=by have:w.heap[cb]? = some (.stringIter str pos):=hrb;simp[getObj,Sem.run,this]
 split at hs1
 ·rename_i hlt;injection hs1 with hs1;subst hs1
  have hset:∀o,(setObj cb o).run P w=.ok () { w with heap:=w.heap.setIfInBounds cb o }:=λo=>by have:w.heap[cb]? = some (.stringIter str pos):=hrb;simp[setObj,Sem.run,this]
  have hnc:∀cs t fr,w.heap[cb]?≠some (.cells cs t fr):=λcs t fr hh=>by have:w.heap[cb]? = some (.stringIter str pos):=hrb;rw[this] at hh;cases hh
  have hbut:=But.setObj (cb:=cb) w (.stringIter str (pos+(Utf8.decode str pos).2)) hnc;refine⟨rfl,.tuple #[.bool true,goInt pos,.int .i32 (Utf8.decode str pos).1],_,?_,?_,hbut.grow h.lt hnS h.base hbase⟩
  ·simp only[Instr.next,Sem.run_bind,hget,Result.andThen_ok];rw[if_pos hlt];simp[hset]
  ·rw[zBV hsl];have hclt:cb<w.heap.size:=(RB.lt (L:=E.L) (S:=S) (φ:=φ) (k:=.sit str pos) hrb);have:=h.write hsl hφ hbut (blk:=.sit str (pos+(Utf8.decode str pos).2)) (by show _=_;simp[hclt])
   refine this.put dst (v:=.d (.tup [.bool true,.int .i64 pos,.int .i32 (Utf8.decode str pos).1])) ⟨[.bool true,goInt pos,.int .i32 (Utf8.decode str pos).1],rfl,rfl,λi a b=>?_⟩
   match i,a with
   | 0,_=>exact⟨.bool _,rfl⟩
   | 1,_=>exact⟨.int _ _,rfl⟩
   | 2,_=>exact⟨.int _ _,rfl⟩
 ·rename_i hlt;simp[zj] at hs1;subst hs1;refine⟨rfl,.tuple #[.bool false],w,?_,?_,Grow.refl⟩
  ·simp only[Instr.next,Sem.run_bind,hget,Result.andThen_ok];rw[if_neg hlt];simp
  ·refine h.put dst (v:=.d (.tup [.bool false])) ⟨[.bool false],rfl,rfl,λi a b=>?_⟩
   match i,a with
   | 0,_=>exact⟨.bool _,rfl⟩
end
end Go.Am
namespace Go.Am
open Go.Proofs
open Go Go.RowKit
section
variable{P:Program}{E:Env}{base:Nat}{S S':Nat->Prop}{φ:Nat->Option Nat}{st:St}{a:Act}{w w':World}
theorem YK:∀(ss:List Nat) (hp:List (Option OB)) (b:Nat),b ∉ ss->slot (Am.freezeL hp ss) b=slot hp b
 | [],hp,b,_=>rfl
 | c :: ss,hp,b,h=>by
  simp only[Am.freezeL];rw[YK ss _ b (λhh=>h (List.mem_cons_of_mem _ hh))]
  unfold freeze1;split
  ·rw[J9 (by rintro rfl;exact h (by simp))]
  ·rfl
theorem qU{α:Type}{sz:Nat}:∀(css:List (List α)),(∀c∈css,c.length=sz)->∀n,(css.take n).flatten=css.flatten.take (n * sz)
 | [],_,n=>by simp
 | c :: css,hz,0=>by simp
 | c :: css,hz,n+1=>by
  have hc:=hz c (by simp)
  rw[List.take_succ_cons,List.flatten_cons,List.flatten_cons,qU css (λd hd=>hz d (by simp[hd])) n,Nat.succ_mul,Nat.add_comm,<-hc,List.take_length_add_append]
theorem YH{α:Type}{sz:Nat}{css:List (List α)}(hz:∀c∈css,c.length=sz):css.flatten.length=css.length * sz:=by rw[zAO,sum_const hz];simp
theorem RA.own_inv{b off len sz:Nat}{u:Value}(hu:RAV E.L S φ w (.own b off len sz) u):(∃cb c,φ b=some cb/\len<=c/\Room w cb ((off+c) * sz)/\u=.slice (some ⟨cb,off * sz,none⟩) len c)\/(∃a,len=0/\u=.slice a 0 0):=hu.own
theorem copyE_sound(hD:DOK P E)(h:Rel E base S φ st a w){ts:Array TypeId}{vs:List AV}{us:List Value}(hu:ListOK E.L S φ w vs us){ef:Eff}(hs:zAk E ts.toList st.hp vs=some ef)(hok:ef.ok=true)(ty:TypeId)(dst:Option Tmp)(s:Nat) :
  ef.new=none/\∃r w' S',(Builtin.copy_ ts ty us.toArray).run P w=.ok r w'/\Rel E base S' φ (zo ef dst s st) (a.put dst r) w'/\Grow base S S' w w':=by
 unfold zAk at hs;split at hs
 case h_2=>simp at hs
 rename_i x y;split at hs
 case h_2=>simp at hs
 rename_i t t2 hts;obtain⟨td,htd,hs1⟩:=bind_some hs;clear hs;have ht:=hD t td htd;split at hs1
 case h_2=>simp at hs1
 rename_i e hk;obtain⟨ed,hed,hs2⟩:=bind_some hs1;clear hs1;split at hs2
 case h_2=>simp at hs2
 rename_i b off len sz;obtain⟨hsz,hs3⟩:=zJ hs2;clear hs2;split at hs3
 case h_2=>simp at hs3
 rename_i s' xs hsl;obtain⟨hg,hs4⟩:=zJ hs3;clear hs3;obtain⟨el,hel,hs5⟩:=bind_some hs4;clear hs4;injection hs5 with hs5;subst hs5
 simp only[decide_eq_true_eq] at hsz hg;obtain⟨rfl,hlen⟩:=hg;have he:=hD e ed hed;obtain⟨i,z,hi,hiz,_,hz,_⟩:=he.info;obtain⟨ud,us',rfl⟩:∃ud us',us=[ud,us']:=by
  match us,hu.1 with
  | [p,q],_=>exact⟨p,q,rfl⟩
  | [],h=>simp at h
  | [_],h=>simp at h
  | _ :: _ :: _ :: _,h=>simp at h
 have h1:=hu.2 0 (by simp) (by simp)
 have h2:=hu.2 1 (by simp) (by simp)
 simp only[List.getElem_cons_zero,List.getElem_cons_succ] at h1 h2;clear hu;obtain⟨css2,hl2,hr2,hz2',hslc⟩:=zA5 h hel h2;have hz2:∀c∈css2,c.length=s':=λc hc=>(hz2' c hc).trans hsz.symm
 clear hz2';simp only[Eff.ok,Bool.and_true,Bool.not_eq_true',List.contains_eq_mem,decide_eq_false_iff_not] at hok;obtain⟨S1,hR1,hG1,hS1⟩:=h.freezeL el.2;have hsl1:slot (Am.freezeL st.hp el.2) b=some ⟨false,.dc s' xs⟩:=by rw[YK _ _ _ hok];exact hsl
 obtain⟨cb,hφ,hbase,hrb,hfz⟩:=hR1.blk b _ hsl1;have hnS:¬S1 cb:=λhh=>by simpa using hfz.1 hh
 obtain⟨cells,ct,css,c1,c2,c3,c4,c5⟩:=hrb;have hss:ed.size=i.size:=hiz.symm;have hn:Nat.min el.1.length len=min el.1.length len:=rfl;have hfirst:=hslc.first (P:=P) (m:=min el.1.length len) (sz:=s') (Nat.min_le_left _ _) (by rw[YH hz2,hl2])
 have ets:ts.toList=[t,t2]:=hts;have e0:ts[0]? = some t:=by rw[<-Array.getElem?_toList,ets];rfl
 have hso:(sizeOf e).run P w=.ok s' w:=by rw[he.sizeOf w,<-hsz]
 have hrd:∀i (h:i<el.1.length) (h':i<css2.length),RD E.L S1 w el.1[i] css2[i]:=λi a b=>(hr2 i a b).mono (λx hx=>(hS1 x).2 hx) λ_ _=>rfl
 have hcl:xs.length * s'<=cells.size:=by have:=c5.length_le;rw[YH c4,c2] at this;simpa using this
 generalize hmin:min el.1.length len=n at *
 have hn1:n<=el.1.length:=by omega
 have hn2:n<=len:=by omega
 have hnc:off * s'+(css2.flatten.take (n * s')).length<=cells.size:=by
  rw[List.length_take,YH hz2,hl2];have h3:off * s'+n * s'<=xs.length * s':=by rw[<-Nat.add_mul];exact Nat.mul_le_mul_right _ (by omega)
  omega
 have hfl:(css2.flatten.take (n * s')).length=n * s':=by rw[List.length_take,YH hz2,hl2];exact Nat.min_eq_left (Nat.mul_le_mul_right _ hn1)
 have hone:∀v∈css2.flatten.take (n * s'),v.oneCell'=true:=λv hv=>by obtain⟨c,hc,hv⟩:=List.mem_flatten.1 (List.mem_of_mem_take hv);obtain⟨k,hk,rfl⟩:=List.mem_iff_getElem.1 hc;exact(hrd k (by omega) hk).oneCell v hv
 have happ:∀(v:AV) (blk:Blk),zo { v,upd:=some (b,blk),frz:=el.2 } dst s st={ tm:=putT st.tm dst v,hp:=(Am.freezeL st.hp el.2).set b (some ⟨false,blk⟩) }:=λv blk=>by simp[zo,updB,hsl1,kilB]
 refine⟨rfl,goInt n,?_⟩;have hrow:∀w',Keep S1 S1 φ φ w w'->w'.heap[cb]? = some (.cells (splice cells.toList (off * s') (css2.flatten.take (n * s'))).toArray ct (0,0)) ->
   RB E.L S1 φ w' (.dc s' (xs.take off++el.1.take n++xs.drop (off+n))) cb:=by
  intro w' k hw;refine⟨_,ct,css.take off++css2.take n++css.drop (off+n),hw,by simp[c2,hl2],λj p q=>?_,λc hc=>?_,?_⟩
  ·have hxt:(xs.take off).length=off:=by simp;omega
   have hct:(css.take off).length=off:=by simp;omega
   have het:(el.1.take n).length=n:=by simp;omega
   have h2t:(css2.take n).length=n:=by simp;omega
   by_cases p1:j<off
   ·rw[List.getElem_append_left (by simp;omega),List.getElem_append_left (by omega),List.getElem_append_left (by simp;omega),List.getElem_append_left (by omega)]
    simp only[List.getElem_take];exact(c3 j (by omega) (by omega)).mono k.sub k.heap
   ·by_cases p2:j<off+n
    ·rw[List.getElem_append_left (by simp;omega),List.getElem_append_right (by omega),List.getElem_append_left (by simp;omega),List.getElem_append_right (by omega)]
     simp only[List.getElem_take,hxt,hct];exact(hrd (j - off) (by omega) (by omega)).mono k.sub k.heap
    ·rw[List.getElem_append_right (by simp;omega),List.getElem_append_right (by simp;omega)]
     simp only[List.getElem_drop,List.length_append,hxt,hct,het,h2t];exact(c3 _ (by simp at p;omega) (by simp at q;omega)).mono k.sub k.heap
  ·rcases List.mem_append.1 hc with hc | hc
   ·rcases List.mem_append.1 hc with hc | hc
    ·exact c4 c (List.mem_of_mem_take hc)
    ·exact hz2 c (List.mem_of_mem_take hc)
   ·exact c4 c (List.mem_of_mem_drop hc)
  ·obtain⟨r,hr⟩:=c5;refine⟨r,?_⟩;have hff:css.flatten.length=xs.length * s':=by rw[YH c4,c2]
   have h3:off * s'+n * s'<=xs.length * s':=by rw[<-Nat.add_mul];exact Nat.mul_le_mul_right _ (by omega)
   show _=splice cells.toList (off * s') (css2.flatten.take (n * s'));rw[<-hr];unfold splice;rw[List.take_append_of_le_length (by omega),List.drop_append_of_le_length (by omega),hfl]
   simp only[List.flatten_append,qU css c4,qU css2 hz2,Jm css c4,Nat.add_mul];simp
 rcases RA.own_inv h1 with ⟨cb',c,hφ',hcc,_,rfl⟩ | ⟨ad,hl0,rfl⟩
 ·have ecb:cb=cb':=Option.some.inj (hφ.symm.trans hφ');subst ecb;have hst:=run_storeCells_at P cb (off * s') ct (css2.flatten.take (n * s')) 0 cells w c1 (by simpa using hnc) hone
  simp only[Nat.add_zero] at hst;rw[show(cells.toList.take (off * s')++css2.flatten.take (n * s')++cells.toList.drop (off * s'+(css2.flatten.take (n * s')).length))=splice cells.toList (off * s') (css2.flatten.take (n * s')) from rfl] at hst
  have hbut:But cb w (w.setRow cb (splice cells.toList (off * s') (css2.flatten.take (n * s'))).toArray):=But.setRow c1 (by rw[List.size_toArray,jv (by simpa using hnc)];simp)
  refine⟨_,S1,?_,?_,hG1.trans (hbut.grow hR1.lt hnS hR1.base hbase)⟩
  ·have hmn:Nat.min el.1.length len=n:=hmin;simp only[Builtin.copy_,e0,List.getElem?_toArray,List.getElem?_cons_zero,List.getElem?_cons_succ,Sem.run_bind,run_underlying (QC ht hk),Result.andThen_ok,hslc.lenOf,hso,hmn,hfirst,hst,Sem.run_pure]
  ·rw[happ];have:=hR1.write hsl1 hφ hbut (hrow _ (hbut.keep hR1.lt hnS) (setRow_heap w cb cells _ ct (0,0) c1));exact this.put dst (v:=.d (.int .i64 _)) (RV.mkInt _ _)
 ·subst hl0;have hn0:n=0:=by omega
  subst hn0;refine⟨w,S1,?_,?_,hG1⟩
  ·have hmn:Nat.min el.1.length 0=0:=by simp[Nat.min_eq_right]
   cases ad with
   | none=>simp only[Builtin.copy_,e0,List.getElem?_toArray,List.getElem?_cons_zero,List.getElem?_cons_succ,Sem.run_bind,run_underlying (QC ht hk),Result.andThen_ok,hslc.lenOf,hso,hmn,hfirst,Sem.run_pure]
   | some ad=>simp only[Builtin.copy_,e0,List.getElem?_toArray,List.getElem?_cons_zero,List.getElem?_cons_succ,Sem.run_bind,run_underlying (QC ht hk),Result.andThen_ok,hslc.lenOf,hso,hmn,hfirst,Sem.run_pure,Nat.zero_mul,List.take_zero,storeCells]
  ·rw[happ];have:=hR1.write (w':=w) hsl1 hφ ⟨rfl,rfl,rfl,Nat.le_refl _,λ_ _ _=>rfl,λ_ h=>h⟩ (hrow w Keep.refl (by
    rw[c1];have:splice cells.toList (off * s') (css2.flatten.take (0 * s'))=cells.toList:=by simp[splice]
    rw[this]))
   exact this.put dst (v:=.d (.int .i64 _)) (RV.mkInt _ _)
end
end Go.Am
namespace Go.Am
open Go.Proofs
open Go Go.RowKit
section
variable{P:Program}{E:Env}{base:Nat}{S S':Nat->Prop}{φ:Nat->Option Nat}{st:St}{a:Act}{w w':World}
theorem run_app_out(t ty e:TypeId)(i:TypeInfo)(z:Value)(ht:P.underlying t=some (.slice e))(hi:P.info? e=some i)(hz:i.zero=some z)(hzs:z.cells.size=i.size)(hby:0<i.bytes)
  {n m:Nat} {olds news:List Value} {ub ux:Value} {bs:Option Addr} {c:Nat} (hub:ub=.slice bs n c) (hnc:n<=c) (hb:bs=none->c=0) (holds:∀ad,bs=some ad->∀j v,olds[j]? = some v->w.cell? (ad.add j)=some v) (hlo:olds.length=n * i.size)
  (hx:SlC w m news ux) (hln:news.length=m * i.size) (hg:c<n+m) (hfit:(2 * (n+m)+200) * i.bytes<=281474976710656) :
  ∃C X,(Builtin.append_ #[t,t] ty #[ub,ux]).run P w=.ok (.slice (some ⟨w.heap.size,0,none⟩) (n+m) C) (w.drew.alloc (.cells X e))/\n+m<=C/\(olds++news) <+: X.toList/\C * i.size<=X.size:=by
 subst hub;obtain⟨ax,cx,rfl,hcx,hcell⟩:=hx;have hm:0<m:=by omega
 obtain⟨ad,rfl,_,hnews⟩:=hcell hm;have hle:(2 * (n+m)+200)<=281474976710656:=Nat.le_trans (Nat.le_mul_of_pos_right _ hby) hfit;have h2:2 * (n+m) * i.bytes<=281474976710656:=Nat.le_trans (Nat.mul_le_mul_right _ (by omega)) hfit
 have fin:∀(C:Nat),n+m<=C->(olds++news) <+: (olds.toArray++news.toArray++Builtin.zeroCells z.cells (C - (n+m))).toList/\C * i.size<=(olds.toArray++news.toArray++Builtin.zeroCells z.cells (C - (n+m))).size:=by
  intro C hC;refine⟨⟨(Builtin.zeroCells z.cells (C - (n+m))).toList,by simp⟩,?_⟩
  simp only[Array.size_append,List.size_toArray,size_zeroCells,hzs,hlo,hln,<-Nat.add_mul];exact Nat.mul_le_mul_right _ (by omega)
 cases bs with
 | none =>
  have hc:c=0:=hb rfl;subst hc;have hn:n=0:=by omega
  subst hn;have ho:olds=[]:=List.eq_nil_of_length_eq_zero (by simpa using hlo)
  subst ho;simp only[Nat.zero_add] at hle h2 fin ⊢;have hr:=run_append_nil (P:=P) w t ty e i z ht hi hz ad m cx news hln hnews hm (by omega) (by rw[Nat.mul_assoc] at h2;omega)
  have hge:=grownCap_ge w m 0 e;have:=fin _ hge;simp only[List.nil_append] at this ⊢;refine⟨grownCap w m 0 e,_,hr,hge,?_,?_⟩
  ·simpa using this.1
  ·simpa using this.2
 | some b =>
  have hr:=run_append_grow (P:=P) w t ty e i z ht hi hz b n c olds hlo (holds b rfl) ad m cx news hln hnews hg (by omega) (by
   exact Nat.le_trans (Nat.mul_le_mul_right _ (nextslicecap_le hg)) h2)
  have hge:=grownCap_ge w (n+m) c e;exact⟨_,_,hr,hge,fin _ hge⟩
theorem run_app_in(t ty e:TypeId)(i:TypeInfo)(ht:P.underlying t=some (.slice e))(hi:P.info? e=some i)
  {n m c cb:Nat} {news:List Value} {ux:Value} {cur:Array Value} {ct:TypeId} (hg:w.heap[cb]? = some (.cells cur ct (0,0))) (hx:SlC w m news ux) (hln:news.length=m * i.size) (h1:∀u∈news,u.oneCell'=true)
  (hroom:n+m<=c) (hfit:n * i.size+news.length<=cur.size) :
  (Builtin.append_ #[t,t] ty #[.slice (some ⟨cb,0,none⟩) n c,ux]).run P w=.ok (.slice (some ⟨cb,0,none⟩) (n+m) c) (w.setRow cb (splice cur.toList (n * i.size) news).toArray):=by
 have hf:=hx.first (P:=P) (m:=m) (sz:=i.size) (Nat.le_refl _) hln;rw[List.take_of_length_le (by omega)] at hf
 have hst:=run_storeCells_at P cb (n * i.size) ct news 0 cur w hg (by simpa using hfit) h1
 simp only[Nat.add_zero] at hst;obtain⟨ax,cx,rfl,_⟩:=hx;simp[Builtin.append_,run_underlying ht,sizeOf,typeInfo,hi,Builtin.lenOf,hroom,hf,Addr.add_lit,hst,splice]
theorem Qa(t ty e:TypeId)(i:TypeInfo)(ht:P.underlying t=some (.slice e))(hi:P.info? e=some i){ad:Option Addr}{news:List Value}{ux:Value}(hx:SlC w 0 news ux)(hln:news.length=0 * i.size) :
  (Builtin.append_ #[t,t] ty #[.slice ad 0 0,ux]).run P w=.ok (.slice ad 0 0) w:=by
 have hf:=hx.first (P:=P) (m:=0) (sz:=i.size) (Nat.le_refl _) hln;obtain⟨ax,cx,rfl,_⟩:=hx;have hn:news=[]:=List.eq_nil_of_length_eq_zero (by simpa using hln)
 subst hn;simp only[List.take_nil] at hf;cases ad <;> simp[Builtin.append_,run_underlying ht,sizeOf,typeInfo,hi,Builtin.lenOf,hf,storeCells]
set_option maxHeartbeats 2000000 in
theorem appendE_sound(hD:DOK P E)(h:Rel E base S φ st a w){ts:Array TypeId}{vs:List AV}{us:List Value}(hu:ListOK E.L S φ w vs us){s:Nat}{ef:Eff}(hs:JQ E ts.toList s st.hp vs=some ef)(hok:ef.ok=true)(ty:TypeId)(dst:Option Tmp){st':St}
  (hst:(match ef.new with
   | none=>some (zo ef dst s st)
   | some b=>zv (dst.isSome && zl s b) (some (zo ef dst s (clear s st))))=some st') :
  ∃r w' S' φ',(Builtin.append_ ts ty us.toArray).run P w=.ok r w'/\Rel E base S' φ' st' (a.put dst r) w'/\Grow base S S' w w':=by
 unfold JQ at hs;split at hs
 case h_2=>simp at hs
 rename_i x y;split at hs
 case h_2=>simp at hs
 rename_i t t2 hts;obtain⟨ett,hs0⟩:=zJ hs;clear hs;simp only[decide_eq_true_eq] at ett;subst ett;obtain⟨td,htd,hs1⟩:=bind_some hs0;clear hs0;have ht:=hD t td htd;split at hs1
 case h_2=>simp at hs1
 rename_i e hk;obtain⟨ed,hed,hs2⟩:=bind_some hs1;clear hs1;obtain⟨bs,hbs,hs3⟩:=bind_some hs2;clear hs2;obtain⟨el,hel,hs4⟩:=bind_some hs3;clear hs3;obtain⟨hg,hs5⟩:=zJ hs4;clear hs4;simp only[decide_eq_true_eq] at hg;obtain⟨hsz0,hby0,hfit⟩:=hg;have he:=hD e ed hed;obtain⟨i,z,hi,hiz,hib,hz,hzr⟩:=he.info;have hrdz:=RV.rd he.zt (hzr S w);have hzs:z.cells.size=i.size:=by have h1:(vcs z).length=Jb E.L (.d ed.zero):=hrdz.1.len;rw[<-(jW he he.zfit).1,<-hiz] at h1;simpa[vcs] using h1
 have htu:=QC ht hk;rw[<-hiz] at hsz0 hbs hel;rw[<-hib] at hby0 hfit;obtain⟨ub,ux,rfl⟩:∃ud us',us=[ud,us']:=by
  match us,hu.1 with
  | [p,q],_=>exact⟨p,q,rfl⟩
  | [],h=>simp at h
  | [_],h=>simp at h
  | _ :: _ :: _ :: _,h=>simp at h
 have h1:=hu.2 0 (by simp) (by simp)
 have h2:=hu.2 1 (by simp) (by simp)
 simp only[List.getElem_cons_zero,List.getElem_cons_succ] at h1 h2;clear hu;have ets:ts=#[t,t]:=Array.ext' (by simpa using hts)
 subst ets;obtain⟨css2,hl2,hr2,hz2,hslc⟩:=zA5 h hel h2;have hfl2:css2.flatten.length=el.1.length * i.size:=by rw[YH hz2,hl2]
 by_cases hnil:bs.2=none/\el.1=[]
 ·obtain⟨hn1,hn2⟩:=hnil;rw[hn1,hn2] at hs5;simp[zj] at hs5;subst hs5;injection hst with hst;subst hst
  rw[hn2] at hslc hfl2;have hub:∃ad,ub=.slice ad 0 0:=by
   unfold YC at hbs;split at hbs
   ·exact RV.nl (show RV E.L S w .nl ub from h1)
   ·split at hbs
    ·split at hbs
     ·split at hbs
      ·injection hbs with hbs;rw[<-hbs] at hn1;simp at hn1
      ·simp at hbs
     ·simp at hbs
    ·simp at hbs
   ·simp at hbs
  obtain⟨ad,rfl⟩:=hub;exact⟨_,w,S,φ,Qa t ty e i htu hi hslc hfl2,h.put dst (v:=.d .nl) ⟨.nl _,rfl⟩,Grow.refl⟩
 ·have hef:ef={ v:=.own s 0 (bs.1.length+el.1.length) i.size,new:=some (.dc i.size (bs.1++el.1)),kil:=bs.2,frz:=el.2 }:=by
   split at hs5
   ·rename_i e1 e2;exact absurd ⟨e1,e2⟩ hnil
   ·rw[hiz];injection hs5 with hs5;exact hs5.symm
  subst hef;obtain⟨hgd,hst⟩:=zJ hst;injection hst with hst;subst hst
  simp only[Eff.ok,Bool.true_and] at hok;obtain⟨S1,hR1,hG1,hS1⟩:=h.freezeL el.2;have hrd:∀i (h:i<el.1.length) (h':i<css2.length),RD E.L S1 w el.1[i] css2[i]:=λi a b=>(hr2 i a b).mono (λx hx=>(hS1 x).2 hx) λ_ _=>rfl
  have hone:∀v∈css2.flatten,v.oneCell'=true:=λv hv=>by obtain⟨c,hc,hv⟩:=List.mem_flatten.1 hv;obtain⟨k,hk,rfl⟩:=List.mem_iff_getElem.1 hc;exact(hrd k (by omega) hk).oneCell v hv
  have hR2:=hR1.clear s;have happ:zo { v:=.own s 0 (bs.1.length+el.1.length) i.size,new:=some (.dc i.size (bs.1++el.1)),kil:=bs.2,frz:=el.2 } dst s (clear s st) =
    { tm:=putT (clear s { st with hp:=Am.freezeL st.hp el.2 }).tm dst (.own s 0 (bs.1.length+el.1.length) i.size),hp:=(kilB (clear s { st with hp:=Am.freezeL st.hp el.2 }).hp bs.2).set s (some ⟨false,.dc i.size (bs.1++el.1)⟩) }:=by
   simp only[zo,updB,clear,qT]
  have hR3:Rel E base S1 (upd φ s none) { clear s { st with hp:=Am.freezeL st.hp el.2 } with hp:=kilB (clear s { st with hp:=Am.freezeL st.hp el.2 }).hp bs.2 } a w:=by
   cases hb2:bs.2 with
   | none=>exact hR2
   | some b=>exact hR2.drop b
  have hblk:∀{w':World} {X:Array Value} {ct:TypeId} {cb:Nat} (css:List (List Value)),css.length=bs.1.length->(∀i (h:i<bs.1.length) (h':i<css.length),RD E.L S1 w bs.1[i] css[i])->(∀c∈css,c.length=i.size) ->
    (∀b,S1 b->w'.heap[b]? = w.heap[b]?)->w'.heap[cb]? = some (.cells X ct (0,0))->(css.flatten++css2.flatten) <+: X.toList->RB E.L S1 (upd (upd φ s none) s (some cb)) w' (.dc i.size (bs.1++el.1)) cb:=by
   intro w' X ct cb css k1 k2 k3 k4 k5 k6;refine⟨X,ct,css++css2,k5,by simp[k1,hl2],λj p q=>?_,λc hc=>?_,by simpa using k6⟩
   ·by_cases hj:j<bs.1.length
    ·rw[List.getElem_append_left hj,List.getElem_append_left (by omega)]
     exact(k2 j hj (by omega)).mono (λ_ h=>h) k4
    ·rw[List.getElem_append_right (by omega),List.getElem_append_right (by omega)]
     simp only[k1];exact(hrd _ (by simp at p;omega) (by simp at q;omega)).mono (λ_ h=>h) k4
   ·rcases List.mem_append.1 hc with hc | hc
    ·exact k3 c hc
    ·exact hz2 c hc
  have out:∀{n c:Nat} {ob:Option Addr} (css:List (List Value)),n=bs.1.length->ub=.slice ob n c->n<=c->(ob=none->c=0)->css.length=bs.1.length->(∀i (h:i<bs.1.length) (h':i<css.length),RD E.L S1 w bs.1[i] css[i])->(∀c∈css,c.length=i.size) ->
    (∀ad,ob=some ad->∀j v,css.flatten[j]? = some v->w.cell? (ad.add j)=some v)->c<n+el.1.length->∃r w' S' φ',(Builtin.append_ #[t,t] ty #[ub,ux]).run P w=.ok r w' /\
    Rel E base S' φ' (zo { v:=.own s 0 (bs.1.length+el.1.length) i.size,new:=some (.dc i.size (bs.1++el.1)),kil:=bs.2,frz:=el.2 } dst s (clear s st)) (a.put dst r) w'/\Grow base S S' w w':=by
   intro n c ob css k1 k2 k3 k4 k5 k6 k7 k8 k9;subst k1;obtain⟨C,X,hrun,hC,hX1,hX2⟩:=run_app_out (P:=P) t ty e i z htu hi hz hzs hby0 k2 k3 k4 k8 (by rw[YH k7,k5]) hslc hfl2 k9 hfit
   have hbut:But w.heap.size w (w.drew.alloc (.cells X e)):=(But.drew w _).trans (But.alloc w.drew _ _);have hnS:¬S1 w.heap.size:=hR1.freshS;have hnew:=hR3.new (s:=s) (cb:=w.heap.size) (blk:=.dc i.size (bs.1++el.1)) (by simp[upd]) hR3.base hnS hbut (λb ob hb=>hR3.fresh b ob hb)
    (hblk css k5 k6 k7 (λb hb=>hbut.block b (hR1.lt b hb) (by rintro rfl;exact hnS hb)) (heap_alloc_new w.drew _) hX1)
   refine⟨_,_,S1,upd (upd φ s none) s (some w.heap.size),hrun,?_,hG1.trans (hbut.grow hR1.lt hnS hR1.base hR1.base)⟩;rw[happ];refine hnew.put dst (v:=.own s 0 (bs.1.length+el.1.length) i.size) ⟨?_,rfl⟩;have:=RA.own (L:=E.L) (S:=S1) (φ:=upd (upd φ s none) s (some w.heap.size)) (w:=w.drew.alloc (.cells X e)) s 0 (bs.1.length+el.1.length) i.size w.heap.size C (by simp[upd]) hC
    ⟨X,e,heap_alloc_new w.drew _,by simpa using hX2⟩
   simpa[vcs,Value.cells] using this
  unfold YC at hbs;split at hbs
  ·injection hbs with hbs;subst hbs
   obtain⟨ad,rfl⟩:=RV.nl (show RV E.L S w .nl ub from h1)
   refine out [] rfl rfl (Nat.le_refl _) (λ_=>rfl) rfl (by simp) (by simp) (λ_ _=>by simp) ?_
   have:el.1≠[]:=λhh=>hnil ⟨rfl,hh⟩
   have:=List.length_pos_iff.2 this;simpa using this
  ·rename_i b off len s2;split at hbs
   case isFalse=>simp at hbs
   rename_i hcond;obtain⟨rfl,rfl⟩:=hcond;split at hbs
   case h_2=>simp at hbs
   rename_i s3 xs hsl;split at hbs
   case isFalse=>simp at hbs
   rename_i hcond;obtain⟨rfl,rfl⟩:=hcond;injection hbs with hbs;subst hbs
   simp only[Bool.not_eq_true',List.contains_eq_mem,decide_eq_false_iff_not] at hok;have hslF:slot (Am.freezeL st.hp el.2) b=some ⟨false,.dc i.size xs⟩:=by rw[YK _ _ _ hok];exact hsl
   obtain⟨cb,hφ,hbase,hrb,hfz⟩:=hR1.blk b _ hslF;have hnS:¬S1 cb:=λhh=>by simpa using hfz.1 hh
   obtain⟨cells,ct,css,c1,c2,c3,c4,c5⟩:=hrb;have hcf:css.flatten.length=xs.length * i.size:=by rw[YH c4,c2]
   have hcells:∀j v,css.flatten[j]? = some v->w.cell? ((⟨cb,0,none⟩:Addr).add j)=some v:=λj v hj=>by rw[jo rfl,qI c1];simpa using YO c5 hj
   have hslots:∀b' ob,slot (kilB (clear s { st with hp:=Am.freezeL st.hp el.2 }).hp (some b)) b'=some ob->upd φ s none b'≠some cb:=by
    intro b' ob hb';simp only[kilB] at hb';rcases Jp hb' with ⟨_,e⟩ | ⟨hne,hb'⟩
    ·cases e
    ·obtain⟨hns,ob0,h0,_⟩:=Jf hb';unfold upd;rw[if_neg hns];intro e;exact hne (hR1.inj b' b _ _ _ h0 hslF e hφ)
   rcases RA.own_inv h1 with ⟨cb',c,hφ',hcc,hroom,hub⟩ | ⟨ad,hl0,hub⟩
   ·have ecb:cb=cb':=Option.some.inj (hφ.symm.trans hφ');subst ecb;simp only[Nat.zero_mul,Nat.zero_add] at hroom hub;by_cases hin:xs.length+el.1.length<=c
    ·clear out;subst hub;obtain⟨cells',ct',c1',hsz'⟩:=hroom;rw[c1] at c1';injection c1' with c1'
     injection c1' with e1 e2 e3
     subst e1;have hle:(xs.length+el.1.length) * i.size<=c * i.size:=Nat.mul_le_mul_right _ hin;have hfit2:xs.length * i.size+css2.flatten.length<=cells.size:=by rw[hfl2,<-Nat.add_mul];omega
     have hrun:=run_app_in (P:=P) t ty e i htu hi (n:=xs.length) (c:=c) c1 hslc hfl2 hone hin hfit2;have hspl:(splice cells.toList (xs.length * i.size) css2.flatten).length=cells.toList.length:=jv (by simpa using hfit2)
     have hbut:But cb w (w.setRow cb (splice cells.toList (xs.length * i.size) css2.flatten).toArray):=But.setRow c1 (by rw[List.size_toArray,hspl];simp)
     have hnew:=hR3.new (s:=s) (cb:=cb) (blk:=.dc i.size (xs++el.1)) (by simp[upd]) hbase hnS hbut hslots
      (hblk (X:=(splice cells.toList (xs.length * i.size) css2.flatten).toArray) (ct:=ct) css c2 c3 c4 (λb hb=>hbut.block b (hR1.lt b hb) (by rintro rfl;exact hnS hb)) (setRow_heap w cb cells _ ct (0,0) c1) (by
       obtain⟨r,hr⟩:=c5;refine⟨(cells.toList.drop (xs.length * i.size+css2.flatten.length)),?_⟩;have:cells.toList.take (xs.length * i.size)=css.flatten:=by rw[<-hr,List.take_append_of_le_length (by omega),List.take_of_length_le (by omega)]
       simp[splice,this]))
     refine⟨_,_,S1,upd (upd φ s none) s (some cb),hrun,?_,hG1.trans (hbut.grow hR1.lt hnS hR1.base hbase)⟩;rw[happ];refine hnew.put dst (v:=.own s 0 (xs.length+el.1.length) i.size) ⟨?_,rfl⟩;have:=RA.own (L:=E.L) (S:=S1) (φ:=upd (upd φ s none) s (some cb)) (w:=w.setRow cb (splice cells.toList (xs.length * i.size) css2.flatten).toArray) s 0 (xs.length+el.1.length) i.size cb c (by simp[upd]) hin
      ⟨_,ct,setRow_heap w cb cells _ ct (0,0) c1,by rw[List.size_toArray,hspl];simpa using hsz'⟩
     simpa[vcs,Value.cells] using this
    ·exact out css rfl hub hcc (λhh=>by cases hh) c2 c3 c4 (λad had j v hj=>by injection had with had;subst had;exact hcells j v hj) (by show c<xs.length+el.1.length;omega)
   ·have hxn:xs=[]:=List.eq_nil_of_length_eq_zero hl0;subst hxn;have hcn:css=[]:=List.eq_nil_of_length_eq_zero c2;subst hcn;by_cases hm:el.1.length=0
    ·clear out;subst hub;have hrun:=Qa (P:=P) (w:=w) t ty e i htu hi (ad:=ad) (by rw[hm] at hslc;exact hslc) (by rw[hfl2,hm])
     have h2n:css2=[]:=List.eq_nil_of_length_eq_zero (by omega)
     have hnew:=hR3.new (w':=w) (s:=s) (cb:=cb) (blk:=.dc i.size ([]++el.1)) (by simp[upd]) hbase hnS ⟨rfl,rfl,rfl,Nat.le_refl _,λ_ _ _=>rfl,λ_ h=>h⟩ hslots
      (hblk (X:=cells) (ct:=ct) [] rfl (by simp) (by simp) (λ_ _=>rfl) c1 (by simp[h2n]))
     refine⟨_,w,S1,upd (upd φ s none) s (some cb),hrun,?_,hG1⟩;rw[happ];refine hnew.put dst (v:=.own s 0 (([]:List DV).length+el.1.length) i.size) ⟨?_,rfl⟩;have:=RA.own0 (L:=E.L) (S:=S1) (φ:=upd (upd φ s none) s (some cb)) (w:=w) s 0 i.size ad;simpa[vcs,Value.cells,hm] using this
    ·exact out (ob:=ad) (c:=0) [] rfl hub (Nat.le_refl _) (λ_=>rfl) rfl (by simp) (by simp) (λ_ _=>by simp) (by simp;omega)
  ·simp at hbs
end
end Go.Am
