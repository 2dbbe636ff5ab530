/- The abstract machine, the contracts of the functions that are walked by hand, and the examples of the document. Part 5. -/
import Derived.Test.YtojkhldombndpaaGreatDoorD4
set_option linter.all false
open List renaming length->Aa,length_map->Ab,replicate->Af,getElem_mem->Ag,getElem?_eq_getElem->Ah,range->Aj,getD_eq_getElem?_getD->An,mem_map->Aq,map_congr_left->Ar,drop_zero->As,getElem_map->At,getElem_range->Aw,ext_getElem->Ax,take->AA,length_eq_zero_iff->AB,nil_append->AC,take_of_length_le->AE,drop->AF,take_length->AJ,map_append->AM,take_succ_eq_append_getElem->AO,getElem_cons_zero->AP,length_cons->AS,range_succ->AT,length_pos_iff->AU,mem_cons->A3,map_cons->A4,eq_of_mem_replicate->A5,getElem_set->A8,cons_append->A9,take_succ->Bf,set->Bg,length_append->Bk,map_nil->Bm,map_map->Bn,length_take->Bt,drop_length->Bu,mem_append->Bw,length_nil->Bx,map->BA,any_cons->BE,prefix_iff_eq_take->BJ,length_eq_one_iff->BK,getElem_cons_succ->BL,mem_of_mem_drop->BO,replicate_succ->BS,getElem?_take->BT,length_range->BW,append_nil->BZ,mem_range->B1,map_drop->B8,any_nil->B9
open Int renaming toNat->Ac,toNat_natCast->Ai,lt_irrefl->A6,tdiv->Bh,zero_add->Bq,add_zero->Br,natCast_zero->Bv,neg_mul_neg->B2,natCast_one->B3,natCast_add->B4,add_assoc->Cb,le_refl->Ci
open Bool renaming and_self->Ad,false_eq_true->AG,not_true->BF,false_or->BG,not_false->B5,and_false->B6
open Go.IntKind renaming wrap->Ae,i64->Ay
open Go.Value renaming int->Ak
open Nat renaming le_refl->Al,zero_le->Av,zero_add->AK,le_trans->AQ,gcd->Bz,mul_le_mul->BB,add_right_cancel_iff->BI,mul_one->BR,lt_of_lt_of_le->BU,add_sub_cancel->BV,cast->B7,gcd_comm->Cc,one_mul->Cf,add_mul->Cg
open Go.World renaming cell?_of_block->Ao,size_alloc->AI,cell?->Bd,block_lt_of_cell?->BD,alloc_heap_new->BM,ownsMap_made->BQ,frozen?->B0
open Option renaming getD_some->Ap,getD->AL,isSome_some->AW,isSome->By
open Array renaming getElem?_eq_some_iff->Au,getD_eq_getD_getElem?->AD,getElem?_modify->AR,getElem?_toList->Bb
open Go.Maps renaming size->Az,has->A7
open Go.RowKit.Below renaming refl->AH,heap_alloc->Bs
open Go.Sort renaming ahead->AN
open Go.Result renaming andThen_ok->AX
open Go.Lib renaming join->AY,itoa->AZ,itoa_nonneg->Bc,decDigits_two->BX,decDigits_one->BY,decDigits->Ca,pow10Tab->Cd
open Option.some renaming inj->A0,injEq->Be
open Go.Proofs renaming enters_of->Ba
open Go.Lit renaming int->Bi
open Go.WalkArith renaming wf_i64->Bj
open Go.Oper renaming wp->Bl,upon->BH
open Go.Sem renaming run_pure->Bo,run_bind->Bp
open Go.Act renaming eval->BC,put->Ce
open ByteArray renaming toList->BN
open Go.Deferred renaming ofValue->BP
open Go.Code renaming loop->Cj
namespace Go.Am
open Go.Proofs
open Go Go.RowKit Go.Sort Go.Proofs
def JU(p:Pt):List Value:=[.int .i64 p.x,.int .i64 p.y]
theorem flat2(f:Nat->Pt):∀n,(Aj (n * 2)).map (λt=>(JU (f (t / 2)))[t % 2]!)=((Aj n).map λi=>JU (f i)).flatten
 | 0=>rfl
 | n+1=>by
  rw[show(n+1) * 2=n * 2+1+1 by omega,AT,AT,AT,AM,AM,flat2 f n,AM,List.flatten_append]
  have e1:n * 2 / 2=n:=by omega
  have e2:n * 2 % 2=0:=by omega
  have e3:(n * 2+1) / 2=n:=by omega
  have e4:(n * 2+1) % 2=1:=by omega
  simp[e1,e2,e3,e4,JU]
theorem zAF(l:List Pt):(flatK JU 2 l.toArray).toList=(l.map JU).flatten:=by
 have h:(flatK JU 2 l.toArray).toList=(Aj (l.length * 2)).map (λt=>(JU (l.getD (t / 2) default))[t % 2]!):=by
  unfold flatK;simp only[Array.toList_map,Array.toList_range,List.size_toArray];refine Ar λt ht=>?_
  have:t / 2<l.length:=by have:=B1.1 ht;omega
  simp[this]
 rw[h,flat2 (λi=>l.getD i default)]
 congr 1;refine Ax (by simp) λi h1 h2=>?_
 have:i<l.length:=by simpa using h2
 simp[this]
section
variable{w:World}{blk n:Nat}{os:Array Obj}{d:Array Pt}
theorem zIh{j:Nat}(hj:j<w.heap.size)(hne:j≠blk):(sortWorldK JU 2 w blk 0 n d os).heap[j]? = w.heap[j]?:=by
 unfold sortWorldK putRowK putRow mapBlock AN;rw[heap_grow_old _ _ (by simpa using hj)]
 simp only[AR];rw[if_neg (λe=>hne e.symm)]
theorem zGo{cur:Array Value}{t:TypeId}{fr:Nat×Nat}(h:w.heap[blk]? = some (.cells cur t fr)):(sortWorldK JU 2 w blk 0 n d os).heap[blk]? = some (.cells (putCells id 0 (flatK JU 2 d) cur) t fr):=by
 have hj:blk<w.heap.size:=(Au.1 h).1;unfold sortWorldK putRowK putRow mapBlock AN;rw[heap_grow_old _ _ (by simpa using hj)]
 simp only[AR,if_true,h];rfl
theorem sortK_size:w.heap.size<=(sortWorldK JU 2 w blk 0 n d os).heap.size:=by unfold sortWorldK putRowK putRow mapBlock AN grow;simp
theorem zDm{F cur:Array Value}(h:F.size<=cur.size):F.toList <+: (putCells id 0 F cur).toList:=by
 rw[BJ];refine Ax (by simp[putCells,h]) λi h1 h2=>?_
 have hi:i<F.size:=by simpa using h1
 simp[putCells,hi]
theorem sortK_but{cur:Array Value}{t:TypeId}(h:w.heap[blk]? = some (.cells cur t (0,0))):But blk w (sortWorldK JU 2 w blk 0 n d os) :=
 ⟨rfl,rfl,rfl,sortK_size,λk hk hne=>zIh hk hne,λm ⟨cs,t',h1,h2⟩=>by
  rw[h] at h1;injection h1 with h1
  injection h1 with h3 h4 h5;subst h3
  exact⟨_,t,zGo h,by simpa[putCells] using h2⟩⟩
end
section
variable{L:Nat->List Nat}{S:Nat->Prop}{φ:Nat->Option Nat}{w:World}{cb:Nat}
theorem RB.pts{l:List Pt}(h:RB L S φ w (.dc 2 (l.map ePt)) cb):∃(cs:Array Value) (t:TypeId),w.heap[cb]? = some (.cells cs t (0,0))/\(l.map JU).flatten <+: cs.toList:=by
 obtain⟨cs,t,css,h1,h2,h3,h4,h5⟩:=h;refine⟨cs,t,h1,?_⟩;have:css=l.map JU:=by
  refine Ax (by simpa using h2) λi a b=>?_
  have h:=h3 i (by simpa using b) a
  rw[At] at h ⊢;generalize css[i]=c at h;have b':i<l.length:=by simpa using b
  generalize l[i]'b'=p at h ⊢;unfold ePt at h;cases h with
  | agg _ _ css hl hh hz =>
   match css,hl with
   | [a,b],_ =>
    have ha:=hh 0 (by simp) (by simp)
    have hb:=hh 1 (by simp) (by simp)
    simp only[AP,BL] at ha hb;rw[RD.int1 ha,RD.int1 hb];rfl
 rw[<-this];exact h5
theorem RB.of_pts(hL:L 1=[1,1]){l:List Pt}{cs:Array Value}{t:TypeId}(h:w.heap[cb]? = some (.cells cs t (0,0)))(hp:(l.map JU).flatten <+: cs.toList):RB L S φ w (.dc 2 (l.map ePt)) cb:=by
 refine⟨cs,t,l.map JU,h,by simp,λi a b=>?_,λc hc=>?_,hp⟩
 ·simp only[At];refine RD.agg 1 [_,_] [[_],[_]] rfl (λi a b=>?_) (by rw[hL];rfl)
  match i,a with
  | 0,_=>exact .int _ _
  | 1,_=>exact .int _ _
 ·obtain⟨p,_,rfl⟩:=Aq.1 hc;rfl
theorem holds_pts{l:List Pt}{cs:Array Value}{t:TypeId}(h:w.heap[cb]? = some (.cells cs t (0,0)))(hp:(l.map JU).flatten <+: cs.toList):HoldsK JU 2 w cb 0 l.toArray:=by
 intro j hj;have hj':j<(flatK JU 2 l.toArray).toList.length:=by simpa using hj
 rw[zAF] at hj';obtain⟨rest,hr⟩:=hp;have e:cs[j]? = some ((flatK JU 2 l.toArray)[j]!):=by
  have e1:cs.toList[j]? = (flatK JU 2 l.toArray).toList[j]?:=by rw[<-hr,List.getElem?_append_left hj',zAF]
  rw[Bb,Bb] at e1;rw[e1,getElem!_pos _ j hj];simp[hj]
 rw[AK];refine⟨?_,?_⟩
 ·unfold Bd;simp only[h,id];exact e
 ·unfold B0;simp[h]
end
end Go.Am
namespace Go.Am
open Go.Proofs
open Go Go.RowKit Go.Sort
attribute [local go_sem] Oper.semAt_some
theorem zIi{w:World}{blk n:Nat}{os:Array Obj}{l:List Int}{j:Nat}(hj:j<w.heap.size)(hne:j≠blk):(grow (putRow (Ak .i64) (AN w n) blk 0 l.toArray) os).heap[j]? = w.heap[j]?:=by
 unfold putRow mapBlock AN;rw[heap_grow_old _ _ (by simpa using hj)]
 simp only[AR];rw[if_neg (λe=>hne e.symm)]
theorem sort1_blk{w:World}{blk n:Nat}{os:Array Obj}{l:List Int}{cur:Array Value}{t:TypeId}{fr:Nat×Nat}(h:w.heap[blk]? = some (.cells cur t fr)):(grow (putRow (Ak .i64) (AN w n) blk 0 l.toArray) os).heap[blk]? = some (.cells (putCells (Ak .i64) 0 l.toArray cur) t fr):=by
 have hj:blk<w.heap.size:=(Au.1 h).1;unfold putRow mapBlock AN;rw[heap_grow_old _ _ (by simpa using hj)]
 simp only[AR,if_true,h];rfl
theorem sort1_size{w:World}{blk n:Nat}{os:Array Obj}{l:List Int}:w.heap.size<=(grow (putRow (Ak .i64) (AN w n) blk 0 l.toArray) os).heap.size:=by unfold putRow mapBlock AN grow;simp
def JH(l:List Int):List Int:=l.mergeSort λx y=>decide (x<=y)
theorem qF(l:List Int):(JH l).length=l.length:=List.length_mergeSort l
theorem sort_owned{w:World}{base:Nat}{v:Value}(l:List Int)(hl:l.length<=100000)(hv:w.ownsRow base 3 1 v l.length (l.map (Ak .i64))) :
  Calls Tryz.prog 286 #[v] w λe w'=>e=.returned (.tuple #[])/\w'.ownsRow base 3 1 v l.length ((JH l).map (Ak .i64))/\(∀b0,b0<=base->Below b0 w w'):=by
 rcases hv.2 with ⟨rfl,e0⟩ | ⟨g,cap,cur,rfl,e2,e3,e4,e5,e6,e7⟩
 ·obtain rfl:=AB.1 e0;refine(Tryz.slices_Sort_int_none none 0 w).mono λe w' ⟨h1,h2⟩=>⟨h1,?_,λ_ _=>h2 ▸ AH _ _⟩
  subst h2;simpa[JH] using hv
 ·have hlt:g<w.heap.size:=(Au.1 e3).1;rw[BR] at e6 e7;have hH:Holds (Ak .i64) w g 0 l.toArray:=by
   intro j hj;have hj':j<l.length:=by simpa using hj
   rw[AK];refine⟨?_,by unfold B0;simp[e3]⟩
   unfold Bd;simp only[e3];have h:=congrArg (λx:List Value=>x[j]?) e7
   simp only[BT,hj',if_true,List.getElem?_map,Ah hj',Option.map_some] at h;rw[Bb] at h;rw[getElem!_pos _ j hj];simpa using h
  refine(Tryz.slices_Sort_int g 0 cap l w hH hlt (by omega)).mono λe w' ⟨h1,n,os,h2⟩=>⟨h1,?_,λb0 hb=>?_⟩
  ·subst h2;have hs:(JH l).length<=cur.size:=by rw[qF];omega
   refine⟨by simp[qF],.inr ⟨g,cap,_,rfl,e2,sort1_blk (l:=JH l) e3,e4,e5,by simp[putCells,e6],?_⟩⟩
   rw[BR];refine Ax (by simp[putCells,qF];omega) λi h1 h2=>?_
   have hi:i<(JH l).length:=by simpa using h2
   simp[putCells,hi]
  ·subst h2;exact⟨rfl,rfl,rfl,sort1_size,λk hk=>zIi (by omega) (by omega)⟩
set_option maxRecDepth 100000 in
set_option maxHeartbeats 2000000 in
theorem zEH(gf:Nat)(lb:Array Value)(l:List Int)(hl:l.length<=100000)(W:World)(C:World->Prop)(eg:∀args w,(callFunc gf args).run Tryz.prog w=.ok (.enter gf args) w)
  (hseq:SeqR Tryz.prog gf lb (l.map encI) C) (hC:∀V,Below W.heap.size W V->C V) :
  Calls Tryz.prog 245 #[.func (.func gf) #[] lb] W λe w'=>∃v,e=.returned v/\w'.ownsRow (W.heap.size+1) 3 1 v l.length ((JH l).map (Ak .i64))/\Below W.heap.size W w':=by
 have happ:=append_seq gf lb l hl W C eg hseq hC;have hcol:Calls Tryz.prog 285 #[.func (.func gf) #[] lb] W λe w'=>∃v,e=.returned v/\w'.ownsRow (W.heap.size+1) 3 1 v l.length (l.map (Ak .i64))/\Below W.heap.size W w':=by
  clear hseq hC eg
  go_enter Tryz.func285,Tryz.ntmps285
  go_wp2_with (go_at_call 327;refine happ.mono ?_;rintro e w' ⟨v,rfl,hv,hB⟩)
  go_ret;exact⟨_,rfl,hv,hB⟩
 clear happ hseq hC eg
 go_enter Tryz.func245,Tryz.ntmps245
 go_wp2_with (go_at_call 285;refine hcol.mono ?_;rintro e w' ⟨v,rfl,hv,hB⟩)
 ·have hsort:=sort_owned l hl hv;have hb1:W.heap.size<=w'.heap.size:=hB.size;clear hcol
  go_wp2_with (go_at_call 286;refine hsort.mono ?_;rintro e w2 ⟨rfl,hv2,hB2⟩)
  go_ret;exact⟨_,rfl,hv2,hB.trans (hB2 _ (by omega))⟩
end Go.Am
namespace Go.Am
open Go.Proofs
open Go Go.RowKit Go.Maps
section
variable{H:Type}
def fD(D:DataW H)(m:Int):Option Int:=if A7 D (.int .i64 m)=true then (match D.atKey (.int .i64 m) (.lit (.int .i64 0)) with | .lit (.int .i64 v)=>some v | _=>none) else none
theorem fD_put{D:DataW H}(hD:IsMap D)(m v m':Int):fD (D.put (.int .i64 m) (.lit (.int .i64 v))) m'=if m'=m then some v else fD D m':=by
 obtain⟨es,rfl⟩:=hD;unfold fD;by_cases h:m'=m
 ·subst h;rw[if_pos rfl,has_put_same (k:=.int .i64 m') ⟨es,rfl⟩ trivial,atKey_put_same (k:=.int .i64 m') ⟨es,rfl⟩ trivial];rfl
 ·rw[if_neg h,has_put_other (by simpa using h),atKey_put_other (by simpa using h)]
end
theorem atKey_none{H:Type}{D:DataW H}{k:Lit}(h:A7 D k=false)(z:DataW H):D.atKey k z=z:=by
 cases D <;> try rfl
 rename_i es;have h:es.any (λp=>p.1.sameKey k)=false:=h
 show(match es.find? (λp=>p.1.sameKey k) with | some p=>p.2 | none=>z)=z
 rw[List.find?_eq_none.2 (λp hp=>by simpa using List.any_eq_false.1 h p hp)]
theorem fD_at{H:Type}{D:DataW H}{m v:Int}(h:∀zd,D.atKey (.int .i64 m) zd=.lit (.int .i64 v)):fD D m=some v:=by
 have hh:A7 D (.int .i64 m)=true:=by
  cases hb:A7 D (.int .i64 m) with
  | true=>rfl
  | false =>
   have e1:=h (.lit (.int .i64 (v+1)));rw[atKey_none hb] at e1;injection e1 with e1
   injection e1 with _ e1;omega
 unfold fD;rw[if_pos hh,h]
theorem zEg{H:Type}{D:DataW H}{m c:Int}(h:D.atKey (.int .i64 m) (.lit (.int .i64 0))=.lit (.int .i64 c)):fD D m=if A7 D (.int .i64 m)=true then some c else none:=by unfold fD;rw[h]
theorem law3:Keyed Tryz.prog 3:=int_keyed Tryz.underlying3
noncomputable def k171:Code:=match Tryz.f171.body with | some c=>c | none=>.skip
def q1:Code->Code | .seq x _=>x | c=>c
def q2:Code->Code | .seq _ y=>y | c=>c
def qb:Code->Code | .block _ c=>c | c=>c
def ql:Code->Code | .loop c=>c | c=>c
noncomputable def k171G:Code:=ql (qb (q2 (q1 (q2 (q2 k171)))))
noncomputable def k171B:Code:=qb (q1 (q2 (q2 k171G)))
noncomputable def k171M:Code:=ql (qb (q2 (q1 (q2 (q2 (q2 k171B))))))
noncomputable def k171C:Code:=qb (q1 (q2 (q2 k171M)))
noncomputable def k171I:Code:=qb (q2 (q2 (q2 (q2 k171C))))
def zGk(be:Int)(x y:Option Int):Option Int:=match x with
 | none=>y
 | some e=>match y with
  | none=>some (e+be)
  | some old=>some (if e+be>old then e+be else old)
theorem zJD(m x:Int):(Bi .i64 m).sameKey (.int .i64 x)=decide (m=x):=by show decide (Ay=Ay/\m=x)=_;simp
theorem rel_put{H:Type}{D0 Dn0 Dn:DataW H}{left:Lit->Bool}{x c e be:Int}(hA:∀m,fD Dn m=if left (.int .i64 (m - c))=true then fD Dn0 m else zGk be (fD D0 (m - c)) (fD Dn0 m))(hm:IsMap Dn)(hx:fD D0 x=some e)
  (hl:left (.int .i64 x)=true) (hn:∀old,fD Dn (x+c)=some old->e+be>old) :
  ∀m,fD (Dn.put (.int .i64 (x+c)) (.lit (.int .i64 (e+be)))) m=if (left (.int .i64 (m - c)) && !(Bi .i64 (m - c)).sameKey (.int .i64 x))=true then fD Dn0 m else zGk be (fD D0 (m - c)) (fD Dn0 m):=by
 intro m;rw[fD_put hm,zJD];by_cases h:m=x+c
 ·subst h;have e1:x+c - c=x:=by omega
  have h0:=hA (x+c);rw[e1,if_pos hl] at h0;rw[if_pos rfl,e1,hl,hx];simp only[decide_true,BF,B6,AG,if_false,zGk];cases hd:fD Dn0 (x+c) with
  | none=>rfl
  | some old =>
   have:=hn old (h0.trans hd);simp only;rw[if_pos this]
 ·rw[if_neg h,hA m,decide_eq_false (by omega)]
  simp
theorem rel_same{H:Type}{D0 Dn0 Dn:DataW H}{left:Lit->Bool}{x c e be old:Int}(hA:∀m,fD Dn m=if left (.int .i64 (m - c))=true then fD Dn0 m else zGk be (fD D0 (m - c)) (fD Dn0 m))(hx:fD D0 x=some e)
  (hl:left (.int .i64 x)=true) (ho:fD Dn (x+c)=some old) (hn:¬e+be>old) :
  ∀m,fD Dn m=if (left (.int .i64 (m - c)) && !(Bi .i64 (m - c)).sameKey (.int .i64 x))=true then fD Dn0 m else zGk be (fD D0 (m - c)) (fD Dn0 m):=by
 intro m;rw[zJD];by_cases h:m=x+c
 ·subst h;have e1:x+c - c=x:=by omega
  have h0:=hA (x+c);rw[e1,if_pos hl] at h0;rw[e1,hl,hx];simp only[decide_true,BF,B6,AG,if_false,zGk];rw[ho] at h0 ⊢;rw[<-h0];simp only;rw[if_neg hn]
 ·rw[hA m,decide_eq_false (by omega)]
  simp
structure KeepM(W w:World)(r bn:Nat):Prop where
 os:w.os=W.os
 tape:w.tape=W.tape
 output:w.output=W.output
 size:W.heap.size<=w.heap.size
 block:∀k,k<W.heap.size->k≠r->k≠bn->w.heap[k]? = W.heap[k]?
theorem KeepM.refl(W:World)(r bn:Nat):KeepM W W r bn:=⟨rfl,rfl,rfl,Al _,λ_ _ _ _=>rfl⟩
theorem KeepM.grown{W w w':World}{r bn j:Nat}(h:KeepM W w r bn)(hg:w.grownBy w' (some j))(hj:j=r\/j=bn):KeepM W w' r bn :=
 ⟨hg.os.trans h.os,hg.tape.trans h.tape,hg.output.trans h.output,AQ h.size hg.size,λk h1 h2 h3=>(hg.block k (by have:=h.size;omega) (λe=>by injection e with e;rcases hj with rfl | rfl <;> omega)).trans (h.block k h1 h2 h3)⟩
set_option maxRecDepth 100000 in
set_option maxHeartbeats 4000000 in
theorem inner171{H:Type}(W:World)(sa:Option Addr)(b bn ab r n kn:Nat)(c be:Int)(D0 Dn0:DataW H)(u1 u2 u3 u4 u6 u7 u8 u12 u13 u14 u15 u16 u17 u18 u19 u20 u21 u22 u23 u24 u25 u26 u27 u28 u29 u30 u31 u32 u33 u34 u35 u36 u37 u38 u39 u40 u41 u42 u43 u44 u46 u47 u48 u49 u50 u51 u52 u53 u54 u55 u56 u57 u58 u59 u60 u61 u62 u63 u64 u65 u66 u67 u68 u69 u70 u71 u72 u73 u74 u75 u76 u77 u78 u79 u80:Value)
  (hrg:W.ranges Tryz.prog 3 (plainElem Tryz.prog 3) b r n D0 (A7 D0) (Az D0)) (hout:W.ownsMap Tryz.prog 3 (plainElem Tryz.prog 3) bn kn Dn0)
  (hbc:W.cell? ⟨ab,1,none⟩=some (.int .i64 be)) (hbr:b≠r/\bn≠r/\b≠bn) (hab:ab≠r/\ab≠bn) (hb64:∀m v,fD D0 m=some v->0<=m/\m<=100/\0<=v/\v<=2000000000000000000) (hn64:∀m v,fD Dn0 m=some v->0<=v/\v<=2000000000000000000)
  (hc64:0<=c/\c<=100) (he64:0<=be/\be<=2000000000000000000) (hkn:kn+Az D0<maxLen)
  (Q:Exit->Act->World->Prop) (hQ:∀(v13 v14 v15 v16 v46 v47 v48 v49 v50 v51 v52 v53 v54 v55 v56 v57 v58 v59 v60 v61 v62 v63 v64 v65 v66 v67 v68 v69 v70 v71 v72 v73 v74 v75 v76:Value) (Dn:DataW H) (cnt:Nat) (w':World),w'.ranges Tryz.prog 3 (plainElem Tryz.prog 3) b r n D0 (λ_=>false) 0->w'.ownsMap Tryz.prog 3 (plainElem Tryz.prog 3) bn (kn+Az D0) Dn ->
   (∀m,fD Dn m=zGk be (fD D0 (m - c)) (fD Dn0 m))->KeepM W w' r bn->Q (.exit 4) { tmps:=#[.pointer sa,u1,u2,u3,u4,.map (some b),u6,u7,u8,.map (some bn),.int .i64 c,.pointer (some ⟨ab,0,none⟩),u12,v13,v14,v15,v16,u17,u18,u19,u20,u21,u22,u23,u24,u25,u26,u27,u28,u29,u30,u31,u32,u33,u34,u35,u36,u37,u38,u39,u40,u41,u42,u43,u44,.pointer (some ⟨r,0,none⟩),v46,v47,v48,v49,v50,v51,v52,v53,v54,v55,v56,v57,v58,v59,v60,v61,v62,v63,v64,v65,v66,v67,v68,v69,v70,v71,v72,v73,v74,v75,v76,u77,u78,u79,u80],defers:=[] } w'):k171I.wp Tryz.prog Q { tmps:=#[.pointer sa,u1,u2,u3,u4,.map (some b),u6,u7,u8,.map (some bn),.int .i64 c,.pointer (some ⟨ab,0,none⟩),u12,u13,u14,u15,u16,u17,u18,u19,u20,u21,u22,u23,u24,u25,u26,u27,u28,u29,u30,u31,u32,u33,u34,u35,u36,u37,u38,u39,u40,u41,u42,u43,u44,.pointer (some ⟨r,0,none⟩),u46,u47,u48,u49,u50,u51,u52,u53,u54,u55,u56,u57,u58,u59,u60,u61,u62,u63,u64,u65,u66,u67,u68,u69,u70,u71,u72,u73,u74,u75,u76,u77,u78,u79,u80],defers:=[] } W:=by
 dsimp only[k171I,k171C,k171M,k171B,k171G,k171,q1,q2,qb,ql,Tryz.f171];have zeroE:∀w,(zeroValue 3).run Tryz.prog w=.ok (.int .i64 0) w:=λw=>by kernel_rfl
 go_loopw [46] (λ_ wr=>∃(left:Lit->Bool) (cnt:Nat) (Dn:DataW H),wr.ranges Tryz.prog 3 (plainElem Tryz.prog 3) b r n D0 left cnt/\cnt<=Az D0 /\
   wr.ownsMap Tryz.prog 3 (plainElem Tryz.prog 3) bn (kn+(Az D0 - cnt)) Dn/\(∀m,fD Dn m=if left (.int .i64 (m - c))=true then fD Dn0 m else zGk be (fD D0 (m - c)) (fD Dn0 m))/\KeepM W wr r bn)
  (λ_ wr=>wr.rangeLeft b r)
 case atStart =>
  refine⟨_,_,Dn0,hrg,Al _,by simpa using hout,λm=>?_,KeepM.refl _ _ _⟩
  by_cases h:A7 D0 (.int .i64 (m - c))=true
  ·rw[if_pos h]
  ·rw[if_neg h];have:fD D0 (m - c)=none:=by unfold fD;rw[if_neg h]
   rw[this];rfl
 case round =>
  obtain⟨left,cnt,Dn,hrg,hcs,hout,hA,hnx⟩:=hrel
  go_wp2_with (first
   | (at_next;refine wpList_next_ranges_ii _ rfl _ rfl 3 3 .i64 .i64 law3 Tryz.underlying3 Tryz.underlying3 b r n _ _ _ rfl hrg ?_ ?_)
   | go_in)
  ·intro hc0 hl0;go_wp2;subst hc0;have hlf:left=λ_=>false:=funext hl0
   subst hlf;exact hQ _ _ _ _ _ _ _ _ _ _ _ _ _ _ _ _ _ _ _ _ _ _ _ _ _ _ _ _ _ _ _ _ _ _ _ Dn 0 wr hrg (by simpa using hout) (λm=>by simpa using hA m) hnx
  ·intro x e w1 cnt1 hwx hwc hlx hat hrg1 hlt hg1 hs1 hen;have hout1:=hout.kept hg1 (by simpa using hbr.2.1)
   have hfx:=fD_at hat;obtain⟨x1,x2,e1,e2⟩:=hb64 x e hfx;have hnx1:=hnx.grown hg1 (.inl rfl);have hbc1:w1.cell? ⟨ab,1,none⟩=some (.int .i64 be) :=
    (Ao (a:=⟨ab,1,none⟩) (hnx1.block ab (BD _ _ hbc) hab.1 hab.2)).trans hbc
   have hwk:(Bi .i64 (x+c)).wf=true:=Bj (by omega)
   have hwe:(Bi .i64 (e+be)).wf=true:=Bj (by omega)
   have ewr:wrap64 (x+c)=x+c:=by unfold wrap64;omega
   have ewe:wrap64 (e+be)=e+be:=by unfold wrap64;omega
   go_wp2_with (first
    | (at_lookup;refine wpList_lookup_own_ok_int _ rfl _ _ 278 rfl 3 3 .i64 law3 Tryz.underlying278 Tryz.underlying3 (zeroE _) bn _ _ rfl hout1 _ _ rfl (keyOf_int_mk Tryz.underlying3 (by first | exact hwk | (rw[ewr];exact hwk) | (show(Bi .i64 (wrap64 (x+c))).wf=true;rw[ewr];exact hwk))) ?_;intro old hold hwo)
    | (at_mapUpdate;refine wpList_mapUpdate_own _ rfl _ _ _ 278 rfl 3 3 law3 Tryz.underlying278 _ bn _ _ rfl hout1 (by omega) _ _ _ rfl rfl (keyOf_int_mk Tryz.underlying3 (by first | exact hwk | (rw[ewr];exact hwk) | (show(Bi .i64 (wrap64 (x+c))).wf=true;rw[ewr];exact hwk))) _ [] (plainElem_int Tryz.underlying3 (by first | exact hwe | (rw[ewe];exact hwe) | (show(Bi .i64 (wrap64 (e+be))).wf=true;rw[ewe];exact hwe))) ?_;intro w2 hout2 hg2;go_frame)
    | go_in)
   ·have hrg2:=hrg1.kept hg2 (λe=>by have:=A0 e;omega) (λe=>by have:=A0 e;omega)
    refine⟨⟨_,cnt1,_,hrg2,by omega,hout2.mono (by omega),rel_put hA hout.isMap hfx hlx (λo ho=>?_),hnx1.grown hg2 (.inr rfl)⟩,by rw[hrg2.left_eq,hrg.left_eq];exact hlt⟩
    rw[zEg hold,if_pos (by assumption)] at ho
    injection ho with ho;have:old<e+be:=by assumption
    omega
   ·refine⟨⟨_,cnt1,_,hrg1,by omega,hout1.mono (by omega),rel_same (old:=old) (e:=e) hA hfx hlx ?_ ?_,hnx1⟩,by rw[hrg1.left_eq,hrg.left_eq];exact hlt⟩
    ·exact(zEg hold).trans (if_pos (by assumption))
    ·have:e+be<=old:=by assumption
     omega
   ·have hrg2:=hrg1.kept hg2 (λe=>by have:=A0 e;omega) (λe=>by have:=A0 e;omega)
    refine⟨⟨_,cnt1,_,hrg2,by omega,hout2.mono (by omega),rel_put hA hout.isMap hfx hlx (λo ho=>?_),hnx1.grown hg2 (.inr rfl)⟩,by rw[hrg2.left_eq,hrg.left_eq];exact hlt⟩
    rw[zEg hold,if_neg (by assumption)] at ho
    cases ho
end Go.Am
namespace Go.Am
open Go.Proofs
open Go Go.RowKit Go.Maps
def zDy(d0:Int->Option Int)(bst:Nat->Option Int):Nat->Int->Option Int
 | 0,_=>none
 | k+1,m=>match bst k with
  | none=>zDy d0 bst k m
  | some be=>zGk be (d0 (m - k)) (zDy d0 bst k m)
theorem Qj{H:Type}{P:Program}{w w':World}{k b n:Nat}{R:Value->Option (DataW H×List MemPlace)}{D:DataW H}(h:w.ownsMap P k R b n D)(e:w'.heap[b]? = w.heap[b]?):w'.ownsMap P k R b n D:=by unfold World.ownsMap at h ⊢;rw[e];exact h
theorem updP_bnd{be:Int}{x y:Option Int}(hb:0<=be/\be<=1000000000000000000)(hx:∀v,x=some v->0<=v/\v<=1000000000000000000)(hy:∀v,y=some v->0<=v/\v<=2000000000000000000):∀v,zGk be x y=some v->0<=v/\v<=2000000000000000000:=by
 intro v h;unfold zGk at h;cases x with
 | none=>exact hy v h
 | some e =>
  have he:=hx e rfl;cases y with
  | none=>simp at h;omega
  | some old =>
   have ho:=hy old rfl;simp only[Be] at h;split at h <;> omega
set_option maxRecDepth 100000 in
set_option maxHeartbeats 4000000 in
theorem mid171{H:Type}(W:World)(sa:Option Addr)(ov:Value)(b bn n L:Nat)(D0:DataW H)(u1 u2 u3 u4 u6 u7 u10 u11 u12 u13 u14 u15 u16 u17 u18 u19 u20 u21 u22 u23 u24 u25 u26 u27 u28 u29 u30 u33 u34 u35 u36 u37 u38 u39 u40 u41 u42 u43 u44 u45 u46 u47 u48 u49 u50 u51 u52 u53 u54 u55 u56 u57 u58 u59 u60 u61 u62 u63 u64 u65 u66 u67 u68 u69 u70 u71 u72 u73 u74 u75 u76 u77 u78 u79 u80:Value)(bst:Nat->Option Int)
  (hb:W.ownsMap Tryz.prog 3 (plainElem Tryz.prog 3) b n D0) (hbn:W.ownsMap Tryz.prog 3 (plainElem Tryz.prog 3) bn 0 (.map []:DataW H)) (hlt:b<bn)
  (hb64:∀m v,fD D0 m=some v->0<=m/\m<=50/\0<=v/\v<=1000000000000000000) (hL:L<=64)
  (hbest:∀(V:World) (k:Nat),Below bn W V->k<=L->Calls Tryz.prog 162 #[.pointer sa,ov,.slice none 0 0,.int .i64 k] V λe w'=>∃(pa:Option Addr) (pn pc:Nat) (en:Int) (fd:Bool),e=.returned (.tuple #[.agg #[.slice pa pn pc,.int .i64 en],.bool fd])/\Below V.heap.size V w'/\bst k=(if fd=true then some en else none)/\0<=en/\en<=1000000000000000000) (hsz0:Az D0<=1000)
  (Q:Exit->Act->World->Prop) (hQ:∀(v10 v11 v12 v13 v14 v15 v16 v32 v33 v34 v35 v36 v37 v38 v39 v40 v41 v42 v43 v44 v45 v46 v47 v48 v49 v50 v51 v52 v53 v54 v55 v56 v57 v58 v59 v60 v61 v62 v63 v64 v65 v66 v67 v68 v69 v70 v71 v72 v73 v74 v75 v76 v77:Value) (kn:Nat) (Dn:DataW H) (w':World),w'.ownsMap Tryz.prog 3 (plainElem Tryz.prog 3) bn kn Dn->kn<=(L+1) * Az D0->(∀m,fD Dn m=zDy (fD D0) bst (L+1) m) ->
   Below bn W w'->bn<w'.heap.size->Q (.exit 2) { tmps:=#[.pointer sa,u1,u2,u3,u4,.map (some b),u6,u7,ov,.map (some bn),v10,v11,v12,v13,v14,v15,v16,u17,u18,u19,u20,u21,u22,u23,u24,u25,u26,u27,u28,u29,u30,.int .i64 ((L:Int)+1),v32,v33,v34,v35,v36,v37,v38,v39,v40,v41,v42,v43,v44,v45,v46,v47,v48,v49,v50,v51,v52,v53,v54,v55,v56,v57,v58,v59,v60,v61,v62,v63,v64,v65,v66,v67,v68,v69,v70,v71,v72,v73,v74,v75,v76,v77,u78,u79,u80],defers:=[] } w'):(Cj k171M).wp Tryz.prog Q { tmps:=#[.pointer sa,u1,u2,u3,u4,.map (some b),u6,u7,ov,.map (some bn),u10,u11,u12,u13,u14,u15,u16,u17,u18,u19,u20,u21,u22,u23,u24,u25,u26,u27,u28,u29,u30,.int .i64 ((L:Int)+1),.int .i64 0,u33,u34,u35,u36,u37,u38,u39,u40,u41,u42,u43,u44,u45,u46,u47,u48,u49,u50,u51,u52,u53,u54,u55,u56,u57,u58,u59,u60,u61,u62,u63,u64,u65,u66,u67,u68,u69,u70,u71,u72,u73,u74,u75,u76,u77,u78,u79,u80],defers:=[] } W:=by
 dsimp only[k171M,k171B,k171G,k171,q1,q2,qb,ql,Tryz.f171]
 go_loopw [32] (λp wr=>∃(k kn:Nat) (Dn:DataW H),p=.int .i64 k/\k<=L+1/\wr.ownsMap Tryz.prog 3 (plainElem Tryz.prog 3) bn kn Dn/\kn<=k * Az D0/\(∀m,fD Dn m=zDy (fD D0) bst k m)/\(∀m v,fD Dn m=some v->0<=v/\v<=2000000000000000000)/\Below bn W wr/\bn<wr.heap.size)
  (λp _=>L+1 - QT p)
 case atStart=>exact⟨0,0,.map [],rfl,by omega,hbn,Av _,λm=>rfl,(λm v h=>by cases h),AH _ _,hbn.lt⟩
 case round =>
  obtain⟨k,kn,Dn,rfl,hk,hown,hkn,hA,hAb,hB,hs⟩:=hrel;by_cases hkl:k<L+1
  ·have hbl:b<wr.heap.size:=by omega
   have hbw:wr.ownsMap Tryz.prog 3 (plainElem Tryz.prog 3) b n D0:=Qj hb (hB.block b hlt);have hcall:=hbest wr k hB (by omega)
   go_wp2_with (first
    | (go_at_call 162;refine hcall.mono ?_;rintro e w1 ⟨pa,pn,pc,en,fd,rfl,hB1,hfd,hen1,hen2⟩;have hb1:=Qj hbw (hB1.block b hbl))
    | (at_range;refine wpList_range_own _ rfl _ 278 rfl 3 3 law3 Tryz.underlying278 _ b n _ rfl (hb1.alloc _) ?_;intro w0 hrg0 hg0 hs0)
    | go_in)
   ·have hfd':bst k=none:=by rw[hfd,if_neg];cases fd <;> simp_all
    have hw1s:=hB1.size;have hrel:∃(k1 kn:Nat) (D:DataW H),Ak .i64 ((k:Int)+1)=.int .i64 k1/\k1<=L+1/\(w1.alloc (.cells #[.slice pa pn pc,.int .i64 en] 266)).ownsMap Tryz.prog 3 (plainElem Tryz.prog 3) bn kn D/\kn<=k1 * Az D0/\(∀m,fD D m=zDy (fD D0) bst k1 m)/\(∀m v,fD D m=some v->0<=v/\v<=2000000000000000000)/\Below bn W (w1.alloc (.cells #[.slice pa pn pc,.int .i64 en] 266))/\bn<(w1.alloc (.cells #[.slice pa pn pc,.int .i64 en] 266)).heap.size:=by
     refine⟨k+1,kn,Dn,by simp,by omega,(Qj hown (hB1.block bn hs)).alloc _,by rw[Cg,Cf];omega,λm=>?_,hAb,((hB.trans (hB1.mono (by omega))).alloc (by omega) _),by rw[AI];omega⟩
     rw[hA m];show _=(match bst k with | none=>_ | some be=>_)
     rw[hfd']
    refine⟨hrel,?_⟩;simp[QT];omega
   ·go_frame
    have hsz1:(w1.alloc (.cells #[.slice pa pn pc,.int .i64 en] 266)).heap.size=w1.heap.size+1:=AI _ _;have hfd':bst k=some en:=by rw[hfd,if_pos];cases fd <;> first | rfl | (exfalso;simp_all;done)
    have hown1:(w1.alloc (.cells #[.slice pa pn pc,.int .i64 en] 266)).ownsMap Tryz.prog 3 (plainElem Tryz.prog 3) bn kn Dn:=(Qj hown (hB1.block bn hs)).alloc _;have hw1s:=hB1.size;have hkk:kn+Az D0<=(k+1) * Az D0:=by rw[Cg,Cf];omega
    have hkk2:(k+1) * Az D0<=65 * 1000:=BB (by omega) hsz0
    refine inner171 w0 sa b bn w1.heap.size (w1.alloc (.cells #[.slice pa pn pc,.int .i64 en] 266)).heap.size n kn k en D0 Dn _ _ _ _ _ _ _ _ _ _ _ _ _ _ _ _ _ _ _ _ _ _ _ _ _ _ _ _ _ _ _ _ _ _ _ _ _ _ _ _ _ _ _ _ _ _ _ _ _ _ _ _ _ _ _ _ _ _ _ _ _ _ _ _ _ _ _ _ _ _ _ _ _ _ _ hrg0 ?_ ?_ ?_ ?_ ?_ ?_ ?_ ?_ ?_ _ ?_
    ·exact Qj hown1 (hg0.block bn (by rw[hsz1];omega) (by simp))
    ·refine(Ao (a:=⟨w1.heap.size,1,none⟩) (hg0.block w1.heap.size (by rw[hsz1];omega) (by simp))).trans ?_
     unfold Bd;simp only[BM];rfl
    ·rw[hsz1];omega
    ·rw[hsz1];omega
    ·intro m v h;have:=hb64 m v h;omega
    ·intro m v h;have:=hAb m v h;omega
    ·omega
    ·omega
    ·unfold maxLen;omega
    ·intro v13 v14 v15 v16 v46 v47 v48 v49 v50 v51 v52 v53 v54 v55 v56 v57 v58 v59 v60 v61 v62 v63 v64 v65 v66 v67 v68 v69 v70 v71 v72 v73 v74 v75 v76 Dn1 cnt w' hrg' hout' hA' hK';have hB2:Below bn W w':=by
      refine(hB.trans (hB1.mono (by omega))).trans ?_
      refine((((AH bn w1).alloc (by omega) (.cells #[.slice pa pn pc,.int .i64 en] 266))).grown hg0 (by rw[hsz1];omega) (λj hj=>by cases hj)).trans ?_
      exact⟨hK'.os,hK'.tape,hK'.output,hK'.size,λj hj=>hK'.block j (by omega) (by rw[hsz1];omega) (by omega)⟩
     have hs2:bn<w'.heap.size:=by have:=hK'.size;omega
     have hrel:∃(k1 kn:Nat) (D:DataW H),Ak .i64 ((k:Int)+1)=.int .i64 k1/\k1<=L+1/\w'.ownsMap Tryz.prog 3 (plainElem Tryz.prog 3) bn kn D/\kn<=k1 * Az D0/\(∀m,fD D m=zDy (fD D0) bst k1 m)/\(∀m v,fD D m=some v->0<=v/\v<=2000000000000000000)/\Below bn W w'/\bn<w'.heap.size:=by
      refine⟨k+1,kn+Az D0,Dn1,by simp,by omega,hout',hkk,λm=>?_,λm v h=>?_,hB2,hs2⟩
      ·rw[hA' m,hA m];show _=(match bst k with | none=>_ | some be=>_)
       rw[hfd']
      ·rw[hA' m] at h;exact updP_bnd ⟨hen1,hen2⟩ (λv h=>by have:=hb64 _ v h;omega) (λv h=>hAb m v h) v h
     go_wp2;refine⟨hrel,?_⟩;simp[QT];omega
  ·go_wp2;obtain rfl:k=L+1:=by omega
   exact hQ _ _ _ _ _ _ _ _ _ _ _ _ _ _ _ _ _ _ _ _ _ _ _ _ _ _ _ _ _ _ _ _ _ _ _ _ _ _ _ _ _ _ _ _ _ _ _ _ _ _ _ _ _ kn Dn wr hown hkn hA hB hs
end Go.Am
namespace Go.Am
open Go.Proofs
open Go Go.RowKit Go.Maps
theorem zHW(V:World)(a:Option Addr)(c:Nat)(g:List Int)(hl:g.length<=100000)(hg:0<g.length->∃b o,a=some ⟨b,o,none⟩/\zAR V b o g) :
  Calls Tryz.prog 245 #[.func (.func 287) #[] #[.pointer (some ⟨V.heap.size,0,none⟩)]] (V.alloc (.cells #[.slice a g.length c] 25)) λe w'=>∃oa oc,e=.returned (.slice oa g.length oc) /\
   w'.ownsRow (V.heap.size+1+1) 3 1 (.slice oa g.length oc) g.length ((JH g).map (Ak .i64))/\Below (V.heap.size+1) (V.alloc (.cells #[.slice a g.length c] 25)) w':=by
 have eg:∀args w,(callFunc 287 args).run Tryz.prog w=.ok (.enter 287 args) w:=Ba Tryz.func287 (by kernel_rfl) rfl
 have hs:(V.alloc (.cells #[.slice a g.length c] 25)).heap.size=V.heap.size+1:=AI _ _;have hbox:∀W',Below (V.heap.size+1) (V.alloc (.cells #[.slice a g.length c] 25)) W'->W'.cell? ⟨V.heap.size,0,none⟩=some (.slice a g.length c):=by
  intro W' hB;refine(Ao (a:=⟨V.heap.size,0,none⟩) (hB.block V.heap.size (by omega))).trans ?_
  unfold Bd;simp only[BM];rfl
 have form:∀(w':World) (v:Value),w'.ownsRow (V.heap.size+1+1) 3 1 v g.length ((JH g).map (Ak .i64))->∃oa oc,v=.slice oa g.length oc:=by
  intro w' v h;rcases h.2 with ⟨rfl,e⟩ | ⟨g',cap,_,rfl,_⟩
  ·exact⟨none,0,by rw[e]⟩
  ·exact⟨_,_,rfl⟩
 have fin:∀(R:Ending->World->Prop),(∀e w',(∃v,e=.returned v/\w'.ownsRow (V.heap.size+1+1) 3 1 v g.length ((JH g).map (Ak .i64))/\Below (V.heap.size+1) (V.alloc (.cells #[.slice a g.length c] 25)) w')->R e w') ->
   Calls Tryz.prog 245 #[.func (.func 287) #[] #[.pointer (some ⟨V.heap.size,0,none⟩)]] (V.alloc (.cells #[.slice a g.length c] 25)) R:=by
  intro R hR;by_cases h0:0<g.length
  ·obtain⟨b,o,rfl,hi⟩:=hg h0;have hblt:b<V.heap.size:=by have:=hi 0 h0;exact BD _ _ this
   have:=zEH 287 #[.pointer (some ⟨V.heap.size,0,none⟩)] g hl (V.alloc (.cells #[.slice (some ⟨b,o,none⟩) g.length c] 25)) _ eg (values_seq ⟨V.heap.size,0,none⟩ b o c g (by omega)) (λW' hB=>by
    rw[hs] at hB;refine⟨hbox W' hB,λj hj=>?_⟩
    refine(Ao (a:=⟨b,o+j,none⟩) ((hB.block b (by omega)).trans (Bs _ _ _ hblt))).trans (hi j hj))
   rw[hs] at this;exact this.mono λe w' h=>hR e w' h
  ·have hz:g=[]:=AB.1 (by omega)
   subst hz;have:=zEH 287 #[.pointer (some ⟨V.heap.size,0,none⟩)] [] (by simp) (V.alloc (.cells #[.slice a ([]:List Int).length c] 25)) _ eg (zIf ⟨V.heap.size,0,none⟩ a c) (λW' hB=>by
    rw[hs] at hB;exact hbox W' hB)
   rw[hs] at this;exact this.mono λe w' h=>hR e w' h
 refine fin _ λe w' ⟨v,he,hv,hB⟩=>?_
 obtain⟨oa,oc,rfl⟩:=form w' v hv;exact⟨oa,oc,he,hv,hB⟩
end Go.Am
namespace Go.Am
open Go.Proofs
open Go Go.RowKit Go.Maps
def zDx(bst:List Int->Nat->Option Int):List (List Int)->Int->Option Int
 | [],m=>if m=0 then some 0 else none
 | g :: gs,m=>zDy (zDx bst gs) (bst (JH g)) (g.length+1) m
def zII:List (List Int)->Nat
 | []=>1
 | g :: gs=>(g.length+1) * zII gs
set_option maxRecDepth 100000 in
set_option maxHeartbeats 4000000 in
theorem last171(wr:World)(sa:Option Addr)(b gb go gcap len:Nat)(u1 u2 u3 u4 u6 u7 u8 u9 u10 u11 u12 u13 u14 u15 u16 u17 u18 u22 u23 u24 u25 u26 u27 u28 u29 u30 u31 u32 u33 u34 u35 u36 u37 u38 u39 u40 u41 u42 u43 u44 u45 u46 u47 u48 u49 u50 u51 u52 u53 u54 u55 u56 u57 u58 u59 u60 u61 u62 u63 u64 u65 u66 u67 u68 u69 u70 u71 u72 u73 u74 u75 u76 u77 u78 u79 u80:Value)(R:Exit->Act->World->Prop)
  (hR:∀v22:Value,R (.exit 0) { tmps:=#[.pointer sa,u1,u2,u3,u4,.map (some b),u6,u7,u8,u9,u10,u11,u12,u13,u14,u15,u16,u17,u18,.slice (some ⟨gb,go,none⟩) len gcap,.int .i64 (len:Int),.int .i64 (len:Int),v22,u23,u24,u25,u26,u27,u28,u29,u30,u31,u32,u33,u34,u35,u36,u37,u38,u39,u40,u41,u42,u43,u44,u45,u46,u47,u48,u49,u50,u51,u52,u53,u54,u55,u56,u57,u58,u59,u60,u61,u62,u63,u64,u65,u66,u67,u68,u69,u70,u71,u72,u73,u74,u75,u76,u77,u78,u79,u80],defers:=[] } wr):k171G.wp Tryz.prog R { tmps:=#[.pointer sa,u1,u2,u3,u4,.map (some b),u6,u7,u8,u9,u10,u11,u12,u13,u14,u15,u16,u17,u18,.slice (some ⟨gb,go,none⟩) len gcap,.int .i64 (len:Int),.int .i64 (len:Int),u22,u23,u24,u25,u26,u27,u28,u29,u30,u31,u32,u33,u34,u35,u36,u37,u38,u39,u40,u41,u42,u43,u44,u45,u46,u47,u48,u49,u50,u51,u52,u53,u54,u55,u56,u57,u58,u59,u60,u61,u62,u63,u64,u65,u66,u67,u68,u69,u70,u71,u72,u73,u74,u75,u76,u77,u78,u79,u80],defers:=[] } wr:=by
 dsimp only[k171G,k171,q1,q2,qb,ql,Tryz.f171];go_wp2;exact hR _
set_option maxRecDepth 100000 in
set_option maxHeartbeats 4000000 in
theorem round171{H:Type}(wr:World)(sa:Option Addr)(b gb go gcap k len n:Nat)(ga:Option Addr)(gc:Nat)(g:List Int)(D:DataW H)(u1 u2 u3 u4 u6 u7 u8 u9 u10 u11 u12 u13 u14 u15 u16 u17 u18 u22 u23 u24 u25 u26 u27 u28 u29 u30 u31 u32 u33 u34 u35 u36 u37 u38 u39 u40 u41 u42 u43 u44 u45 u46 u47 u48 u49 u50 u51 u52 u53 u54 u55 u56 u57 u58 u59 u60 u61 u62 u63 u64 u65 u66 u67 u68 u69 u70 u71 u72 u73 u74 u75 u76 u77 u78 u79 u80:Value)(bst:List Int->Nat->Option Int)
  (hkl:k<len) (hlen:len<=64) (hg64:g.length<=64) (hc1:wr.cell? ⟨gb,go+k,none⟩=some (.slice ga g.length gc))
  (hsort:Calls Tryz.prog 245 #[.func (.func 287) #[] #[.pointer (some ⟨wr.heap.size,0,none⟩)]] (wr.alloc (.cells #[.slice ga g.length gc] 25)) λe w'=>∃oa oc,e=.returned (.slice oa g.length oc) /\
   w'.ownsRow (wr.heap.size+1+1) 3 1 (.slice oa g.length oc) g.length ((JH g).map (Ak .i64))/\Below (wr.heap.size+1) (wr.alloc (.cells #[.slice ga g.length gc] 25)) w')
  (hown:wr.ownsMap Tryz.prog 3 (plainElem Tryz.prog 3) b n D) (hbs:b<wr.heap.size) (hDb:∀m v,fD D m=some v->0<=m/\m<=50/\0<=v/\v<=1000000000000000000) (hsz:Az D<=1000)
  (hbest:∀(V:World) (oa:Option Addr) (oc k:Nat),Below wr.heap.size wr V->V.ownsRow wr.heap.size 3 1 (.slice oa g.length oc) g.length ((JH g).map (Ak .i64))->k<=g.length ->
   Calls Tryz.prog 162 #[.pointer sa,.slice oa g.length oc,.slice none 0 0,.int .i64 k] V λe w'=>∃(pa:Option Addr) (pn pc:Nat) (en:Int) (fd:Bool),e=.returned (.tuple #[.agg #[.slice pa pn pc,.int .i64 en],.bool fd])/\Below V.heap.size V w'/\bst (JH g) k=(if fd=true then some en else none)/\0<=en/\en<=1000000000000000000)
  (R:Exit->Act->World->Prop) (hR:∀(v7 v8 v9 v10 v11 v12 v13 v14 v15 v16 v22 v23 v24 v25 v26 v27 v28 v29 v30 v31 v32 v33 v34 v35 v36 v37 v38 v39 v40 v41 v42 v43 v44 v45 v46 v47 v48 v49 v50 v51 v52 v53 v54 v55 v56 v57 v58 v59 v60 v61 v62 v63 v64 v65 v66 v67 v68 v69 v70 v71 v72 v73 v74 v75 v76 v77 v78 v79:Value) (b1 kn:Nat) (Dn:DataW H) (w':World),wr.heap.size<b1->w'.ownsMap Tryz.prog 3 (plainElem Tryz.prog 3) b1 kn Dn->kn<=(g.length+1) * Az D->(∀m,fD Dn m=zDy (fD D) (bst (JH g)) (g.length+1) m) ->
   Below wr.heap.size wr w'->b1<w'.heap.size->R .normal { tmps:=#[.pointer sa,u1,u2,u3,u4,.map (some b1),u6,v7,v8,v9,v10,v11,v12,v13,v14,v15,v16,u17,u18,.slice (some ⟨gb,go,none⟩) len gcap,.int .i64 (len:Int),.int .i64 ((k:Int)+1),v22,v23,v24,v25,v26,v27,v28,v29,v30,v31,v32,v33,v34,v35,v36,v37,v38,v39,v40,v41,v42,v43,v44,v45,v46,v47,v48,v49,v50,v51,v52,v53,v54,v55,v56,v57,v58,v59,v60,v61,v62,v63,v64,v65,v66,v67,v68,v69,v70,v71,v72,v73,v74,v75,v76,v77,v78,v79,u80],defers:=[] } w'):k171G.wp Tryz.prog R { tmps:=#[.pointer sa,u1,u2,u3,u4,.map (some b),u6,u7,u8,u9,u10,u11,u12,u13,u14,u15,u16,u17,u18,.slice (some ⟨gb,go,none⟩) len gcap,.int .i64 (len:Int),.int .i64 (k:Int),u22,u23,u24,u25,u26,u27,u28,u29,u30,u31,u32,u33,u34,u35,u36,u37,u38,u39,u40,u41,u42,u43,u44,u45,u46,u47,u48,u49,u50,u51,u52,u53,u54,u55,u56,u57,u58,u59,u60,u61,u62,u63,u64,u65,u66,u67,u68,u69,u70,u71,u72,u73,u74,u75,u76,u77,u78,u79,u80],defers:=[] } wr:=by
 have hmm:=@run_makeMap Tryz.prog;have HR:Hid _:=hR;have HB:Hid _:=hbest;have HD:Hid _:=hDb;clear hR hbest hDb;dsimp only[k171G,k171,q1,q2,qb,ql,Tryz.f171]
 go_wp2_with (first
  | (go_at_call 245;refine hsort.mono ?_;rintro e w1 ⟨oa,oc,rfl,hv,hB1⟩)
  | go_in)
 have hw1s:wr.heap.size+1<=w1.heap.size:=by have:=hB1.size;rw[AI] at this;omega
 have hBw1:Below wr.heap.size wr w1:=((AH wr.heap.size wr).alloc (Al _) _).trans (hB1.mono (by omega))
 refine mid171 (w1.alloc (.map #[] 0)) sa (.slice oa g.length oc) b w1.heap.size n g.length D _ _ _ _ _ _ _ _ _ _ _ _ _ _ _ _ _ _ _ _ _ _ _ _ _ _ _ _ _ _ _ _ _ _ _ _ _ _ _ _ _ _ _ _ _ _ _ _ _ _ _ _ _ _ _ _ _ _ _ _ _ _ _ _ _ _ _ _ _ _ _ _ _ _ _ (bst (JH g)) ?_ ?_ ?_ ?_ ?_ ?_ ?_ _ ?_
 ·exact(Qj hown ((hB1.block b (by omega)).trans (Bs _ _ _ hbs))).alloc _
 ·exact BQ _ _ _ _
 ·omega
 ·exact HD.out
 ·exact hg64
 ·intro V k1 hBV hk1;have hBV':Below wr.heap.size wr V:=(hBw1.trans ((AH wr.heap.size w1).alloc (by omega) _)).trans (hBV.mono (by omega))
  refine HB.out V oa oc k1 hBV' ⟨hv.1,hv.2.imp id ?_⟩ hk1;rintro⟨g',cap,cur,e1,e2,e3,e4⟩;have hglt:g'<w1.heap.size:=(Au.1 e3).1;exact⟨g',cap,cur,e1,by omega,((hBV.block g' hglt).trans (Bs _ _ _ hglt)).trans e3,e4⟩
 ·exact hsz
 ·intro v10 v11 v12 v13 v14 v15 v16 v32 v33 v34 v35 v36 v37 v38 v39 v40 v41 v42 v43 v44 v45 v46 v47 v48 v49 v50 v51 v52 v53 v54 v55 v56 v57 v58 v59 v60 v61 v62 v63 v64 v65 v66 v67 v68 v69 v70 v71 v72 v73 v74 v75 v76 v77 kn Dn w' hown' hkn' hA' hB' hs';have hBw':Below wr.heap.size wr w':=(hBw1.trans ((AH wr.heap.size w1).alloc (by omega) _)).trans (hB'.mono (by omega))
  have hlt1:wr.heap.size<w1.heap.size:=by omega
  have fin:∀(v7 v8 v9 v10 v11 v12 v13 v14 v15 v16 v22 v23 v24 v25 v26 v27 v28 v29 v30 v31 v32 v33 v34 v35 v36 v37 v38 v39 v40 v41 v42 v43 v44 v45 v46 v47 v48 v49 v50 v51 v52 v53 v54 v55 v56 v57 v58 v59 v60 v61 v62 v63 v64 v65 v66 v67 v68 v69 v70 v71 v72 v73 v74 v75 v76 v77 v78 v79:Value),R .normal { tmps:=#[.pointer sa,u1,u2,u3,u4,.map (some w1.heap.size),u6,v7,v8,v9,v10,v11,v12,v13,v14,v15,v16,u17,u18,.slice (some ⟨gb,go,none⟩) len gcap,.int .i64 (len:Int),.int .i64 ((k:Int)+1),v22,v23,v24,v25,v26,v27,v28,v29,v30,v31,v32,v33,v34,v35,v36,v37,v38,v39,v40,v41,v42,v43,v44,v45,v46,v47,v48,v49,v50,v51,v52,v53,v54,v55,v56,v57,v58,v59,v60,v61,v62,v63,v64,v65,v66,v67,v68,v69,v70,v71,v72,v73,v74,v75,v76,v77,v78,v79,u80],defers:=[] } w':=λv7 v8 v9 v10 v11 v12 v13 v14 v15 v16 v22 v23 v24 v25 v26 v27 v28 v29 v30 v31 v32 v33 v34 v35 v36 v37 v38 v39 v40 v41 v42 v43 v44 v45 v46 v47 v48 v49 v50 v51 v52 v53 v54 v55 v56 v57 v58 v59 v60 v61 v62 v63 v64 v65 v66 v67 v68 v69 v70 v71 v72 v73 v74 v75 v76 v77 v78 v79=>HR.out v7 v8 v9 v10 v11 v12 v13 v14 v15 v16 v22 v23 v24 v25 v26 v27 v28 v29 v30 v31 v32 v33 v34 v35 v36 v37 v38 v39 v40 v41 v42 v43 v44 v45 v46 v47 v48 v49 v50 v51 v52 v53 v54 v55 v56 v57 v58 v59 v60 v61 v62 v63 v64 v65 v66 v67 v68 v69 v70 v71 v72 v73 v74 v75 v76 v77 v78 v79 w1.heap.size kn Dn w' hlt1 hown' hkn' hA' hBw' hs'
  have HF:Hid _:=fin;clear fin HR HB HD hA' hown' hv hsort;go_wp2;exact HF.out _ _ _ _ _ _ _ _ _ _ _ _ _ _ _ _ _ _ _ _ _ _ _ _ _ _ _ _ _ _ _ _ _ _ _ _ _ _ _ _ _ _ _ _ _ _ _ _ _ _ _ _ _ _ _ _ _ _ _ _ _ _ _ _ _ _ _ _
theorem outer171{H:Type}(W:World)(sa:Option Addr)(b0 gb go gcap B n0:Nat)(gs:List (List Int))(D0:DataW H)(u1 u2 u3 u4 u6 u7 u8 u9 u10 u11 u12 u13 u14 u15 u16 u17 u18 u22 u23 u24 u25 u26 u27 u28 u29 u30 u31 u32 u33 u34 u35 u36 u37 u38 u39 u40 u41 u42 u43 u44 u45 u46 u47 u48 u49 u50 u51 u52 u53 u54 u55 u56 u57 u58 u59 u60 u61 u62 u63 u64 u65 u66 u67 u68 u69 u70 u71 u72 u73 u74 u75 u76 u77 u78 u79 u80:Value)(bst:List Int->Nat->Option Int)(ga:Nat->Option Addr)(gc:Nat->Nat)
  (hb:W.ownsMap Tryz.prog 3 (plainElem Tryz.prog 3) b0 n0 D0) (hB:B<=W.heap.size)
  (hcell:∀j (h:j<gs.length),W.cell? ⟨gb,go+j,none⟩=some (.slice (ga j) gs[j].length (gc j))) (hgb:gb<B) (hgl:gs.length<=64) (hlen64:∀j (h:j<gs.length),gs[j].length<=64)
  (hD0:∀m,fD D0 m=zDx bst [] m) (hn0:n0<=1) (hb0:B<=b0) (hprod:∀k,zII (gs.take k).reverse<=1000) (hF:∀k m v,zDx bst (gs.take k).reverse m=some v->0<=m/\m<=50/\0<=v/\v<=1000000000000000000)
  (hints:∀j (h:j<gs.length),0<gs[j].length->∃b o,ga j=some ⟨b,o,none⟩/\b<B/\zAR W b o gs[j])
  (hbest:∀(V:World) (j:Nat) (h:j<gs.length) (oa:Option Addr) (oc k:Nat),Below B W V->V.ownsRow B 3 1 (.slice oa gs[j].length oc) gs[j].length ((JH gs[j]).map (Ak .i64))->k<=gs[j].length ->
   Calls Tryz.prog 162 #[.pointer sa,.slice oa gs[j].length oc,.slice none 0 0,.int .i64 k] V λe w'=>∃(pa:Option Addr) (pn pc:Nat) (en:Int) (fd:Bool),e=.returned (.tuple #[.agg #[.slice pa pn pc,.int .i64 en],.bool fd])/\Below V.heap.size V w'/\bst (JH gs[j]) k=(if fd=true then some en else none)/\0<=en/\en<=1000000000000000000)
  (Q:Exit->Act->World->Prop) (hQ:∀(v21 v7 v8 v9 v10 v11 v12 v13 v14 v15 v16 v22 v23 v24 v25 v26 v27 v28 v29 v30 v31 v32 v33 v34 v35 v36 v37 v38 v39 v40 v41 v42 v43 v44 v45 v46 v47 v48 v49 v50 v51 v52 v53 v54 v55 v56 v57 v58 v59 v60 v61 v62 v63 v64 v65 v66 v67 v68 v69 v70 v71 v72 v73 v74 v75 v76 v77 v78 v79:Value) (b n:Nat) (D:DataW H) (w':World),B<=b->w'.ownsMap Tryz.prog 3 (plainElem Tryz.prog 3) b n D->(∀m,fD D m=zDx bst gs.reverse m)->Below B W w'->Q (.exit 0) { tmps:=#[.pointer sa,u1,u2,u3,u4,.map (some b),u6,v7,v8,v9,v10,v11,v12,v13,v14,v15,v16,u17,u18,.slice (some ⟨gb,go,none⟩) gs.length gcap,.int .i64 (gs.length:Int),v21,v22,v23,v24,v25,v26,v27,v28,v29,v30,v31,v32,v33,v34,v35,v36,v37,v38,v39,v40,v41,v42,v43,v44,v45,v46,v47,v48,v49,v50,v51,v52,v53,v54,v55,v56,v57,v58,v59,v60,v61,v62,v63,v64,v65,v66,v67,v68,v69,v70,v71,v72,v73,v74,v75,v76,v77,v78,v79,u80],defers:=[] } w') :
  (Cj k171G).wp Tryz.prog Q { tmps:=#[.pointer sa,u1,u2,u3,u4,.map (some b0),u6,u7,u8,u9,u10,u11,u12,u13,u14,u15,u16,u17,u18,.slice (some ⟨gb,go,none⟩) gs.length gcap,.int .i64 (gs.length:Int),.int .i64 0,u22,u23,u24,u25,u26,u27,u28,u29,u30,u31,u32,u33,u34,u35,u36,u37,u38,u39,u40,u41,u42,u43,u44,u45,u46,u47,u48,u49,u50,u51,u52,u53,u54,u55,u56,u57,u58,u59,u60,u61,u62,u63,u64,u65,u66,u67,u68,u69,u70,u71,u72,u73,u74,u75,u76,u77,u78,u79,u80],defers:=[] } W:=by
 have main:∀(m k b n:Nat) (D:DataW H) (kv:Int) (u7 u8 u9 u10 u11 u12 u13 u14 u15 u16 u22 u23 u24 u25 u26 u27 u28 u29 u30 u31 u32 u33 u34 u35 u36 u37 u38 u39 u40 u41 u42 u43 u44 u45 u46 u47 u48 u49 u50 u51 u52 u53 u54 u55 u56 u57 u58 u59 u60 u61 u62 u63 u64 u65 u66 u67 u68 u69 u70 u71 u72 u73 u74 u75 u76 u77 u78 u79:Value) (w:World),kv=k->gs.length - k<m->B<=b->k<=gs.length->w.ownsMap Tryz.prog 3 (plainElem Tryz.prog 3) b n D->n<=zII (gs.take k).reverse->(∀m,fD D m=zDx bst (gs.take k).reverse m)->Below B W w->b<w.heap.size ->
   Code.rounds Tryz.prog k171G Q m { tmps:=#[.pointer sa,u1,u2,u3,u4,.map (some b),u6,u7,u8,u9,u10,u11,u12,u13,u14,u15,u16,u17,u18,.slice (some ⟨gb,go,none⟩) gs.length gcap,.int .i64 (gs.length:Int),.int .i64 kv,u22,u23,u24,u25,u26,u27,u28,u29,u30,u31,u32,u33,u34,u35,u36,u37,u38,u39,u40,u41,u42,u43,u44,u45,u46,u47,u48,u49,u50,u51,u52,u53,u54,u55,u56,u57,u58,u59,u60,u61,u62,u63,u64,u65,u66,u67,u68,u69,u70,u71,u72,u73,u74,u75,u76,u77,u78,u79,u80],defers:=[] } w:=by
  intro m;induction m with
  | zero=>intro k b n D kv u7 u8 u9 u10 u11 u12 u13 u14 u15 u16 u22 u23 u24 u25 u26 u27 u28 u29 u30 u31 u32 u33 u34 u35 u36 u37 u38 u39 u40 u41 u42 u43 u44 u45 u46 u47 u48 u49 u50 u51 u52 u53 u54 u55 u56 u57 u58 u59 u60 u61 u62 u63 u64 u65 u66 u67 u68 u69 u70 u71 u72 u73 u74 u75 u76 u77 u78 u79 w h1 h2;omega
  | succ m ih =>
   intro k b n D kv u7 u8 u9 u10 u11 u12 u13 u14 u15 u16 u22 u23 u24 u25 u26 u27 u28 u29 u30 u31 u32 u33 u34 u35 u36 u37 u38 u39 u40 u41 u42 u43 u44 u45 u46 u47 u48 u49 u50 u51 u52 u53 u54 u55 u56 u57 u58 u59 u60 u61 u62 u63 u64 u65 u66 u67 u68 u69 u70 u71 u72 u73 u74 u75 u76 u77 u78 u79 w hkv hm hbB hk hown hnp hA hBe hbs;subst hkv;rw[rounds_succ];by_cases hkl:k<gs.length
   ·have hws:B<=w.heap.size:=by omega
    refine round171 w sa b gb go gcap k gs.length n (ga k) (gc k) gs[k] D u1 u2 u3 u4 u6 u7 u8 u9 u10 u11 u12 u13 u14 u15 u16 u17 u18 u22 u23 u24 u25 u26 u27 u28 u29 u30 u31 u32 u33 u34 u35 u36 u37 u38 u39 u40 u41 u42 u43 u44 u45 u46 u47 u48 u49 u50 u51 u52 u53 u54 u55 u56 u57 u58 u59 u60 u61 u62 u63 u64 u65 u66 u67 u68 u69 u70 u71 u72 u73 u74 u75 u76 u77 u78 u79 u80 bst hkl hgl (hlen64 k hkl) ((Ao (a:=⟨gb,go+k,none⟩) (hBe.block gb hgb)).trans (hcell k hkl)) ?_ hown hbs ?_ ?_ ?_ _ ?_
    ·exact zHW w (ga k) (gc k) gs[k] (by have:=hlen64 k hkl;omega) (λh0=>by
      obtain⟨b1,o1,e1,e2,e3⟩:=hints k hkl h0;exact⟨b1,o1,e1,λj hj=>(Ao (a:=⟨b1,o1+j,none⟩) (hBe.block b1 e2)).trans (e3 j hj)⟩)
    ·intro m v h;rw[hA m] at h;exact hF k m v h
    ·have:=hown.size_le;have:=hprod k;omega
    ·intro V oa oc k1 hBV hv hk1;refine hbest V k hkl oa oc k1 (hBe.trans (hBV.mono hws)) ⟨hv.1,hv.2.imp id ?_⟩ hk1;rintro⟨g',cap,cur,e1,e2,e3,e4⟩;exact⟨g',cap,cur,e1,by omega,e3,e4⟩
    ·intro v7 v8 v9 v10 v11 v12 v13 v14 v15 v16 v22 v23 v24 v25 v26 v27 v28 v29 v30 v31 v32 v33 v34 v35 v36 v37 v38 v39 v40 v41 v42 v43 v44 v45 v46 v47 v48 v49 v50 v51 v52 v53 v54 v55 v56 v57 v58 v59 v60 v61 v62 v63 v64 v65 v66 v67 v68 v69 v70 v71 v72 v73 v74 v75 v76 v77 v78 v79 b1 kn Dn w' hb1 hown' hkn' hA' hB' hs';have et:(gs.take (k+1)).reverse=gs[k] :: (gs.take k).reverse:=by rw[Bf,Ah hkl];simp
     refine ih (k+1) b1 kn Dn _ v7 v8 v9 v10 v11 v12 v13 v14 v15 v16 v22 v23 v24 v25 v26 v27 v28 v29 v30 v31 v32 v33 v34 v35 v36 v37 v38 v39 v40 v41 v42 v43 v44 v45 v46 v47 v48 v49 v50 v51 v52 v53 v54 v55 v56 v57 v58 v59 v60 v61 v62 v63 v64 v65 v66 v67 v68 v69 v70 v71 v72 v73 v74 v75 v76 v77 v78 v79 w' (by omega) (by omega) (by omega) (by omega) hown' ?_ (λm=>?_) (hBe.trans (hB'.mono hws)) hs'
     ·rw[et];exact AQ hkn' (BB (Al _) (AQ hown.size_le hnp))
     ·rw[et,hA' m];show zDy (fD D) _ _ _=zDy (zDx bst (gs.take k).reverse) _ _ _;rw[show fD D=zDx bst (gs.take k).reverse from funext hA]
   ·have hke:k=gs.length:=by omega
    subst hke;rw[AJ] at hA;exact last171 w sa b gb go gcap gs.length u1 u2 u3 u4 u6 u7 u8 u9 u10 u11 u12 u13 u14 u15 u16 u17 u18 u22 u23 u24 u25 u26 u27 u28 u29 u30 u31 u32 u33 u34 u35 u36 u37 u38 u39 u40 u41 u42 u43 u44 u45 u46 u47 u48 u49 u50 u51 u52 u53 u54 u55 u56 u57 u58 u59 u60 u61 u62 u63 u64 u65 u66 u67 u68 u69 u70 u71 u72 u73 u74 u75 u76 u77 u78 u79 u80 _ (λv22=>hQ _ _ _ _ _ _ _ _ _ _ _ _ _ _ _ _ _ _ _ _ _ _ _ _ _ _ _ _ _ _ _ _ _ _ _ _ _ _ _ _ _ _ _ _ _ _ _ _ _ _ _ _ _ _ _ _ _ _ _ _ _ _ _ _ _ _ _ _ _ b n D w hbB hown hA hBe)
 exact wp_loop_rounds (gs.length+1) (main (gs.length+1) 0 b0 n0 D0 0 u7 u8 u9 u10 u11 u12 u13 u14 u15 u16 u22 u23 u24 u25 u26 u27 u28 u29 u30 u31 u32 u33 u34 u35 u36 u37 u38 u39 u40 u41 u42 u43 u44 u45 u46 u47 u48 u49 u50 u51 u52 u53 u54 u55 u56 u57 u58 u59 u60 u61 u62 u63 u64 u65 u66 u67 u68 u69 u70 u71 u72 u73 u74 u75 u76 u77 u78 u79 W rfl (by omega) hb0 (Av _) hb hn0 hD0 (AH _ _) hb.lt)
end Go.Am
namespace Go.Am
open Go.Proofs
open Go
variable[OO]
def S159_0a(v0:List DV)(v1:Int):St :=
 zr 26 [(11,(.d (.agg 3 v0))),(12,(.d (eI v1)))] []
noncomputable def zBf(v0:List DV)(v1:Int):Option CR:=goQ 159 0 (S159_0a v0 v1)
def S159_1a(v0:List DV)(v1:Int)(v2:List DV)(v3:Int):St :=
 zr 26 [(11,(.d (.agg 3 v0))),(12,(.d (eI v1))),(15,(.d (.agg 2 v2))),(16,(.d (eI v3)))] []
noncomputable def zFI(v0:List DV)(v1:Int)(v2:List DV)(v3:Int):Option CR:=goQ 159 1 (S159_1a v0 v1 v2 v3)
theorem zFJ(v0:List DV)(v1:Int):zBf v0 v1 =
 ifO (decide (v1<(8:Int)))
 (ifO (decide ((0:Int)<=v1))
 (ifO (jK 3 (Ac v1) (.agg 3 v0))
 (ifO (zF EE 6 30 (nth v0 (Ac v1)))
 ((zFI v0 v1 (flds (nth v0 (Ac v1))) (0:Int)))
 (none))
 (none))
 (none))
 (some (.val (eI 0))) :=
 (zb 159 0 _).trans (by kernel_rfl)
theorem zFH(v0:List DV)(v1:Int)(v2:List DV)(v3:Int):zFI v0 v1 v2 v3 =
 ifO (decide (v3<(51:Int)))
 (ifO (decide ((0:Int)<=v3))
 (ifO (jK 2 (Ac v3) (.agg 2 v2))
 (ifO (zF EE 6 3 (nth v2 (Ac v3)))
 (zH (zB 225 [(eI (zC (nth v2 (Ac v3)))),(eI 0),(eI 40000)])
 (λr0=>ifO (zF EE 6 46 r0)
 (ifO (bne (zC r0) 0)
 (some (.val (eI (zC r0))))
 ((zFI v0 v1 v2 (Ae .i64 (v3+(1:Int))))))
 (none))
 (λ_ _=>none))
 (none))
 (none))
 (none))
 ((zBf v0 (Ae .i64 (v1+(1:Int))))) :=
 (zb 159 1 _).trans (by kernel_rfl)
theorem C159(x0:DV):zB 159 [x0] =
 ifO (zV (zF EE 6) [45] [x0])
 (ifO (By (YT EE 45 (.agg 3 (flds x0)) (.agg 3 (Af (α:=DV) 8 (.agg 2 (Af (α:=DV) 51 (eI 0)))))))
 (ifO (ifO.match_1 (λy814=>Bool) false (λy767=>(!(AL (YT EE 45 (.agg 3 (flds x0)) (.agg 3 (Af (α:=DV) 8 (.agg 2 (Af (α:=DV) 51 (eI 0)))))) false))) (λy894=>(AL (YT EE 45 (.agg 3 (flds x0)) (.agg 3 (Af (α:=DV) 8 (.agg 2 (Af (α:=DV) 51 (eI 0)))))) false)))
 (some (.val (eI 0)))
 ((zBf (flds x0) (0:Int))))
 (none))
 (none) :=
 (zM (f:=159) (by kernel_rfl) (by kernel_rfl) (by kernel_rfl) [x0]).trans (by kernel_rfl)
end Go.Am
namespace Go.Am
open Go.Proofs
open Go
class KnW[OO]:Prop where
 wakes:∀(w:Wk) (ps:List Pt) (sec:Int) (st:Pt),w.w.length=w.d.length->w.d.length<=32->ps.length<=64->(∀p∈ps,JP p)->zBG st ->
  zB 200 [eWk w,.sl 2 (ps.map ePt),eWd sec st]=some (.val (.sl 1 ((wakesP w ps sec st).map λr=>.sl 1 (r.map eI))))
variable[OO]
theorem cn25(x:List DV):cnE EE 25 (.sl 1 x)=.sl 1 x:=by kernel_rfl
theorem zIU(l:List (List Int)):(l.map λr=>DV.sl 1 (r.map eI)).map (cnE EE 25)=l.map λr=>.sl 1 (r.map eI):=by rw[Bn];exact Ar λr _=>cn25 _
theorem wakeE_ok{w:Wk}(h:wakeE w=0):zJR w/\ji w.rule=true:=by
 unfold wakeE at h;split at h
 ·rename_i hh;obtain⟨h1,h2,h3,h4⟩:=wakeH_facts hh;split at h
  ·rename_i hd;have key:∀(l:List Int) (prev:Option Int),jt 256 false prev l=0->∀d∈l,0<=d/\d<=256:=by
    intro l;induction l with
    | nil=>intro _ _ d hd;simp at hd
    | cons x r ih =>
     intro prev hl d hd;unfold jt at hl;split at hl
     ·rename_i h0;rcases A3.1 hd with rfl | hd
      ·unfold jV at h0;exact jW.1 (jE h0).1
      ·exact ih _ hl d hd
     ·rename_i h0;exact absurd hl h0
   exact⟨⟨key _ _ hd,h4,by omega⟩,h1⟩
  ·rename_i hd;exact absurd h hd
 ·rename_i hh;exact absurd h hh
theorem c153[KnW](w:Wk)(ps:List Pt)(sec:Int)(st:Pt)(hw:zJR w)(hk:ji w.rule=true)(hl:ps.length<=64)(hp:∀p∈ps,JP p)(hs:zBG st) :
  zB 153 [eWk w,.sl 2 (ps.map ePt),eWd sec st]=some (.val (.sl 1 ((JA w ps sec st).map eI))):=by
 have hwk:=KnW.wakes w ps sec st hw.2.1 hw.2.2 hl hp hs;have hb:=wakesP_bound hw ps sec st;have h236:=c236 237 [] [.dp (.fn (if w.rule=rG then 262 else if w.rule=rS then 264 else 231) [] [])] (λl=>Yn (QW w.rule l)) (wakesP w ps sec st) (by simp[wakesP];omega)
  λx hx=>(show zB 237 (zy EE 237 [.sl 1 (x.map eI),.dp (.fn (if w.rule=rG then 262 else if w.rule=rS then 264 else 231) [] [])])=zB 237 [.sl 1 (x.map eI),.dp (.fn (if w.rule=rG then 262 else if w.rule=rS then 264 else 231) [] [])] from congrArg (zB 237) (by kernel_rfl)).trans
   (c237 w.rule hk _ rfl x (by rw[(hb x hx).1];omega) (hb x hx).2)
 rw[C153];simp only[zK,zN,h59,h81,h251,Ad,zD,zQ,zS,zW,zh,zZ,zI,zR,C198,zJ,h314,keys_mp,vals_mp];rw[find_rule w.rule hk];simp only[AW,Ap,zD,h312,hwk,zJ,h95,zR,zIU,zQ,zS,Yb,QA,q0,h236,h25];rfl
def Jl(cut:Int):Option Int->List Int->Int
 | _,[]=>zf cut 1 51
 | prev,p :: r=>if jc prev p=0 then Jl cut (some p) r else jc prev p
theorem zBA(cut:Int):∀(prev:Option Int) (l:List Int),Jl cut prev l=if J4 prev l=0 then zf cut 1 51 else J4 prev l
 | _,[]=>rfl
 | prev,p :: r=>by
  unfold Jl J4;by_cases h:jc prev p=0
  ·simp only[h,if_true];exact zBA cut (some p) r
  ·simp only[h,if_false]
theorem l114(l:List Int)(cut:Int)(hl:l.length<=1000):∀i,i<=l.length->QQ (l.map eI) l.length i cut=some (.val (eI (Jl cut (if i=0 then none else some (l.getD (i - 1) 0)) (l.drop i)))):=by
 apply down
 ·rw[zFW];simp[Jl]
 ·intro i hi ih;have e1:(i:Int)<l.length:=by omega
  have hgi:l.getD i 0=l[i]:=by rw[An,Ah hi];rfl
  rw[if_neg (by omega:¬i+1=0),BV,hgi] at ih
  have ih2:QQ (l.map eI) l.length (Ay.wrap ((i:Int)+1)) cut=some (.val (eI (Jl cut (some l[i]) (l.drop (i+1))))):=by rw[wr ((i:Int)+1) (by omega)];exact_mod_cast ih
  rw[zFW,za l i hi];have hn:=zO eI l i hi;have e7:(0:Int)<=(i:Int):=by omega
  simp only[zP,JY,zz];simp only[Ab,e1,e7,if_true,and_self,Ai,hn,h3,ih2,zD,zI,c149,zJ,h46];by_cases hz:i=0
  ·subst hz;have e2:(if bne l[0] 0=true then (6:Int) else 0)=if l[0]=0 then 0 else 6:=by by_cases h:l[0]=0 <;> simp[h]
   simp only[Bv,gt_iff_lt,A6,if_false,if_true,c169,zJ,h46,zD,zI,c148_3,e2,AG];rw[Jl];show _=some (CR.val (eI (if zT [zf l[0] 0 100000,0,if l[0]=0 then 0 else 6]=0 then Jl cut (some l[0]) (l.drop (0+1)) else zT [zf l[0] 0 100000,0,if l[0]=0 then 0 else 6])))
   by_cases hX:zT [zf l[0] 0 100000,0,if l[0]=0 then 0 else 6]=0
   ·refine(if_pos hX).trans ?_;rw[if_pos hX]
   ·refine(if_neg hX).trans ?_;rw[if_neg hX]
  ·obtain⟨k,rfl⟩:∃k,i=k+1:=⟨i - 1,by omega⟩
   have hk:k<l.length:=by omega
   have hgk:l.getD k 0=l[k]:=by rw[An,Ah hk];rfl
   have hnk:=zO eI l k hk;have e3:Ay.wrap (((k+1:Nat):Int) - 1)=k:=by rw[wr _ (by omega)];omega
   have e4:(if (k:Int)>0 then (k:Int) else 0)=k:=by split <;> omega
   have e5:((k+1:Nat):Int)>0:=by omega
   have e6:¬((k+1:Nat):Int)=0:=by omega
   have e8:(0:Int)<=(k:Int)/\(k:Int)<l.length:=by omega
   simp only[e3,e4,e5,e6,e8,if_true,if_false,and_self,Ai,hnk,h3,zD,zI,c169,zJ,h46,c148_3,AG,decide_eq_true_eq];rw[Jl];simp only[BV,hgk,Nat.add_eq_zero_iff,Nat.one_ne_zero,and_false,if_false,jc];by_cases hX:zT [zf l[k+1] 0 100000,if l[k+1]<l[k] then 11 else 0,0]=0
   ·refine(if_pos hX).trans ?_;rw[if_pos hX]
   ·refine(if_neg hX).trans ?_;rw[if_neg hX]
theorem c114(c:Cu):zB 114 [eCu c]=some (.val (eI (YK c))):=by
 rw[C114];simp only[zP];simp only[zK,zN,h60,Ad,zD,zQ,zS,zW,zR,zI,Ab];unfold YK;by_cases h1:(c.p.length:Int)<2
 ·simp[h1]
 ·by_cases h2:(c.p.length:Int)>51
  ·simp[h1,h2]
  ·rw[if_neg h1,if_neg h2,if_neg h1,if_neg h2,<-zBA];have:=l114 c.p c.cut (by omega) 0 (Av _)
   simpa using this
theorem Q0(q:Int)(r:List Int):J5 (q :: r)=if zf q 0 40000=0 then J5 r else 3:=rfl
theorem zBl(q:List Int)(r:List (List Int)):qj (q :: r)=if J5 q=0 then qj r else 3:=rfl
theorem eqInt(n:Nat)(a b:Int):eqT EE (n+1) 3 (eI a) (eI b)=some (a == b):=by kernel_rfl
theorem eqInts(n:Nat):∀(m:Nat) (xs ys:List Int),xs.length=m->ys.length=m->zBU (eqT EE (n+1)) (Af m 3) (xs.map eI) (ys.map eI)=some (decide (xs=ys))
 | 0,xs,ys,h1,h2=>by
  obtain rfl:=AB.1 h1;obtain rfl:=AB.1 h2;rfl
 | m+1,[],_,h,_=>by simp at h
 | m+1,_ :: _,[],_,h=>by simp at h
 | m+1,x :: xs,y :: ys,h1,h2=>by simp only[AS,BI] at h1 h2;simp only[BS,A4,zBU,eqInt,zL,eqInts n m xs ys h1 h2];by_cases h:x=y <;> simp[h]
theorem eqRow(row:List Int)(h:row.length=51)(ys:List Int)(hy:ys.length=51):YT EE 30 (.agg 2 (row.map eI)) (.agg 2 (ys.map eI))=some (decide (row=ys)) :=
 (show YT EE 30 (.agg 2 (row.map eI)) (.agg 2 (ys.map eI))=zBU (eqT EE 9) (Af 51 3) (row.map eI) (ys.map eI) by kernel_rfl).trans (eqInts 8 51 row ys h hy)
theorem eqRow'(row:List Int)(h:row.length=51)(ys:List Int)(hy:ys.length=51):eqT EE 9 30 (jC row) (jC ys)=some (decide (row=ys)) :=
 (show eqT EE 9 30 (.agg 2 (row.map eI)) (.agg 2 (ys.map eI))=zBU (eqT EE 8) (Af 51 3) (row.map eI) (ys.map eI) by kernel_rfl).trans (eqInts 7 51 row ys h hy)
theorem eqRows:∀(m:Nat) (xs ys:List (List Int)),xs.length=m->ys.length=m->(∀r∈xs,r.length=51)->(∀r∈ys,r.length=51)->zBU (eqT EE 9) (Af m 30) (xs.map jC) (ys.map jC)=some (decide (xs=ys))
 | 0,xs,ys,h1,h2,_,_=>by
  obtain rfl:=AB.1 h1;obtain rfl:=AB.1 h2;rfl
 | m+1,[],_,h,_,_,_=>by simp at h
 | m+1,_ :: _,[],_,h,_,_=>by simp at h
 | m+1,x :: xs,y :: ys,h1,h2,h3,h4=>by
  simp only[AS,BI] at h1 h2;simp only[BS,A4,zBU];rw[eqRow' x (h3 x (by simp)) y (h4 y (by simp)),eqRows m xs ys h1 h2 (λr hr=>h3 r (by simp[hr])) (λr hr=>h4 r (by simp[hr]))]
  by_cases h:x=y <;> simp[h]
theorem eqRose(xs ys:List (List Int))(h1:zu xs)(h2:zu ys):YT EE 45 (eRo xs) (eRo ys)=some (decide (xs=ys)) :=
 (show YT EE 45 (.agg 3 (xs.map jC)) (.agg 3 (ys.map jC))=zBU (eqT EE 9) (Af 8 30) (xs.map jC) (ys.map jC) by kernel_rfl).trans (eqRows 8 xs ys h1.1 h2.1 h1.2 h2.2)
def z51:List Int:=Af 51 0
def zRose:List (List Int):=Af 8 z51
theorem zRose_ok:zu zRose:=⟨rfl,λr hr=>by rw[A5 hr];rfl⟩
theorem js{α:Type}(t i:Nat)(f:α->DV)(l:List α)(h:i<l.length):jK t i (.agg t (l.map f))=true:=by simp[jK,h]
theorem h30r(row:List Int)(h:row.length=51):zF EE 6 30 (jC row)=true:=by rw[h30];simp[h]
theorem l159_1(r:List (List Int))(row:List Int)(s:Int)(hrow:row.length=51):∀k,k<=row.length->zFI (r.map jC) s (row.map eI) k=if J5 (row.drop k)=0 then zBf (r.map jC) (Ay.wrap (s+1)) else some (.val (eI 3)):=by
 apply down
 ·rw[zFH];simp only[zP];rw[if_neg (by omega)]
  simp[J5]
 ·intro k hk ih;have e1:(k:Int)<51:=by omega
  have e0:(0:Int)<=(k:Int):=by omega
  rw[zFH,za row k hk];simp only[zP,zz];rw[if_pos e1,if_pos e0];simp only[Ai,js _ _ _ _ hk,zD,zO _ row k hk,h3,zI,c225,zJ,h46];rw[wr ((k:Int)+1) (by omega),show((k:Int)+1)=((k+1:Nat):Int) by omega,ih]
  rw[Q0];rcases zCV row[k] 0 40000 with hr | hr
  ·simp[hr]
  ·simp[hr]
theorem l159_0(r:List (List Int))(h:zu r):∀s,s<=r.length->zBf (r.map jC) s=some (.val (eI (qj (r.drop s)))):=by
 apply down
 ·rw[zFJ];have:=h.1;simp only[zP];rw[if_neg (by omega)]
  simp[qj]
 ·intro s hs ih;have hl:=h.1;have hrow:=h.2 r[s] (Ag hs);have e1:(s:Int)<8:=by omega
  have e0:(0:Int)<=(s:Int):=by omega
  rw[zFJ,za r s hs];simp only[zP];rw[if_pos e1,if_pos e0];simp only[Ai,js _ _ _ _ hs,zD,zO _ r s hs,h30r _ hrow,zQ];have:=l159_1 r r[s] s hrow 0 (Av _);rw[show((0:Nat):Int)=0 from rfl] at this
  rw[this,wr ((s:Int)+1) (by omega),show((s:Int)+1)=((s+1:Nat):Int) by omega,ih,As]
  rw[zBl];split <;> simp_all
theorem c159(r:List (List Int))(h:zu r):zB 159 [eRo r]=some (.val (eI (qj r))):=by
 rw[C159];simp only[zK,zN,h45,Ab,h.1,decide_true,Ad,zD,zQ];have he:=eqRose r zRose h zRose_ok;have hz:eRo zRose=.agg 3 (Af 8 (.agg 2 (Af 51 (eI 0)))):=rfl;rw[hz] at he;refine(congrArg (λo:Option Bool=>ifO (By o) (ifO (AL o false) (some (.val (eI 0))) (zBf (r.map jC) 0)) none) he).trans ?_
 by_cases hr:r=zRose
 ·subst hr;simp only[decide_true,AW,Ap,zD];rfl
 ·simp only[hr,decide_false,AW,Ap,zD,zU];have:=l159_0 r h 0 (Av _);simpa using this
theorem hFm(f:Fm)(h:zu f.r):zF EE 6 62 (eFm f)=true:=by rw[h62];simp[h.1]
theorem c40(f:Fm)(h:zu f.r):zB 40 [eFm f]=some (.val (eI (YO f))):=by rw[C40];simp only[zK,zN,hFm f h,Ad,zD,zQ,zS,zW,zh,zi,zZ,zI,zR];simp only[c158,c75,c114,c159 f.r h,zJ,h46,zD,zI,c148_4];rfl
end Go.Am
namespace Go.Am
open Go.Proofs
open Go
variable[OO]
abbrev eMd(w:Wk)(c:Cu)(r:List (List Int)):DV:=.agg 13 [eWk w,eCu c,eRo r]
theorem bne0{x:Int}(h:x=0):bne x 0=false:=by simp[h]
theorem b00:bne (0:Int) 0=false:=rfl
theorem bne1{x:Int}(h:¬x=0):bne x 0=true:=by simpa[bne] using h
theorem m1(a b:Unit->Bool):ifO.match_1 (λ_=>Bool) false a b=b ():=rfl
structure Valid(W:Wk)(C:Cu)(R:List (List Int))(P:List Pt):Prop where
 w:zJR W
 k:ji W.rule=true
 c:okCu C
 r:zu R
 q:okQ R
 l:P.length<=64
 p:∀p∈P,JP p
theorem zGC(n:Int):zBG (zY n):=YG n
section
variable[KnW]{w:Wk}{c:Cu}{r:List (List Int)}{ps:List Pt}
theorem l145_1(h:Valid w c r ps)(above:Int)(ha:0<=above/\above<=1)(sec:Nat)(hsec:sec<8)(row:List Int)(hrow:row.length=51)(hq:∀q∈row,0<=q/\q<=40000) :
  ∀k,k<=row.length->∀n:Int,0<=n->n<=(sec * 51+k) * 65536000000000 ->
   QO (ps.map ePt) above n ((JA w ps sec (zY sec)).map eI) (r.map jC) sec (row.map eI) k w.rule (w.d.map eI) (w.w.map eI) (c.p.map eI) c.cut =
   QP (ps.map ePt) above (n+qw w c ps above sec k (row.drop k)) (r.map jC) (Ay.wrap ((sec:Int)+1)) w.rule (w.d.map eI) (w.w.map eI) (c.p.map eI) c.cut:=by
 apply down (P:=λk=>∀n:Int,0<=n->n<=(sec * 51+k) * 65536000000000 ->
   QO (ps.map ePt) above n ((JA w ps sec (zY sec)).map eI) (r.map jC) sec (row.map eI) k w.rule (w.d.map eI) (w.w.map eI) (c.p.map eI) c.cut =
   QP (ps.map ePt) above (n+qw w c ps above sec k (row.drop k)) (r.map jC) (Ay.wrap ((sec:Int)+1)) w.rule (w.d.map eI) (w.w.map eI) (c.p.map eI) c.cut)
 ·intro n _ _;rw[zFQ];simp only[zP];rw[if_neg (by omega)]
  simp[qw]
 ·intro k hk ih n h0 h1;have e1:(k:Int)<51:=by omega
  have e0:(0:Int)<=(k:Int):=by omega
  have hqk:=hq row[k] (Ag hk);have hcb:=j9 h.w ps sec (zY sec);have hcl:=jw w ps sec (zY sec);have h152:=c152 (JA w ps sec (zY sec)) ((k:Int)+above) (by rw[hcl];have:=h.l;omega) (by omega) hcb
  have hsb:=qh hcb (v:=(k:Int)+above) (b:=51) (by omega) (by omega)
  have hsl:(jL (JA w ps sec (zY sec)) ((k:Int)+above)).length=ps.length:=by simp[jL,hcl]
  have h151:=c151v c h.c (jL (JA w ps sec (zY sec)) ((k:Int)+above)) (by rw[hsl];have:=h.l;omega) (λx hx=>by have:=hsb x hx;omega)
  have hpb:=Q7 h.c.2.2.1 w ps sec k above;have h231:=c231 (qA w c ps sec k above) (by rw[zCW];have:=h.l;omega) (λx hx=>by have:=hpb x hx;omega)
  have hsum:=zCQ h.c.2.2.1 w h.l sec k above;have hce:=qq h.c.2.2.1 w h.l above sec k hqk;have hpow:(jL (JA w ps sec (zY sec)) ((k:Int)+above)).map (YA c)=qA w c ps sec k above:=rfl;rw[hpow] at h151;have ih':=ih (n+qD w c ps above sec k row[k]) (by omega) (by simp only[B4,B3];omega)
  rw[zFQ,za row k hk,qw];simp only[zP];rw[if_pos e1,if_pos e0];simp only[Ai,js _ _ _ _ hk,zD,zO _ row k hk,h3,zI];rw[wr ((k:Int)+above) (by omega),h152,wr ((k:Int)+1) (by omega)]
  simp only[zJ,h25,zD,zR,h151,h231,h3,zI];have e2:((k:Int)+1)=((k+1:Nat):Int):=by omega
  by_cases c1:row[k]>0
  ·by_cases c2:(k:Int)<c.cut
   ·have hv:qD w c ps above sec k row[k]=row[k] * jZ (qA w c ps sec k above):=if_pos ⟨c1,c2⟩;rw[hv] at hce ih' ⊢;rw[if_pos c1,if_pos c2,wr (row[k] * _) (by omega),wr (n+_) (by omega),e2,ih',Cb]
   ·have hv:qD w c ps above sec k row[k]=0:=if_neg (λhh=>c2 hh.2)
    rw[hv] at hce ih' ⊢;rw[if_pos c1,if_neg c2,e2];rw[Br] at ih';rw[ih',Bq]
  ·have hv:qD w c ps above sec k row[k]=0:=if_neg (λhh=>c1 hh.1)
   rw[hv] at hce ih' ⊢;rw[if_neg c1,e2];rw[Br] at ih';rw[ih',Bq]
theorem l145_0(h:Valid w c r ps)(above:Int)(ha:0<=above/\above<=1):∀s,s<=r.length->∀n:Int,0<=n->n<=(s * 51:Int) * 65536000000000 ->
  QP (ps.map ePt) above n (r.map jC) s w.rule (w.d.map eI) (w.w.map eI) (c.p.map eI) c.cut=some (.val (eI (n+enE w c ps above s (r.drop s)))):=by
 apply down (P:=λs=>∀n:Int,0<=n->n<=(s * 51:Int) * 65536000000000 ->
  QP (ps.map ePt) above n (r.map jC) s w.rule (w.d.map eI) (w.w.map eI) (c.p.map eI) c.cut=some (.val (eI (n+enE w c ps above s (r.drop s)))))
 ·intro n _ _;have:=h.r.1;rw[zFR];simp only[zP];rw[if_neg (by omega)]
  simp[enE]
 ·intro s hs ih n h0 h1;have hl:=h.r.1;have hrow:=h.r.2 r[s] (Ag hs);have hq:=h.q r[s] (Ag hs);have e1:(s:Int)<8:=by omega
  have e0:(0:Int)<=(s:Int):=by omega
  have hr0:zf (s:Int) 0 7=0:=jW.2 (by omega)
  have h153:=c153 w ps s (zY s) h.w h.k h.l h.p (zGC s);have hre:=qQ h.c.2.2.1 w h.l above s r[s] 0 hq;rw[hrow] at hre;have ih':=ih (n+qw w c ps above s 0 r[s]) (by omega) (by simp only[B4,B3];omega)
  have e2:((s:Int)+1)=((s+1:Nat):Int):=by omega
  have hz:(Af 51 (eI 0))=z51.map eI:=rfl;have he:=eqRow r[s] hrow z51 rfl;have key:QO (ps.map ePt) above n ((JA w ps s (zY s)).map eI) (r.map jC) s (r[s].map eI) (0:Int) w.rule (w.d.map eI) (w.w.map eI) (c.p.map eI) c.cut=some (.val (eI (n+(qw w c ps above s 0 r[s]+enE w c ps above (s+1) (r.drop (s+1)))))):=by
   have k1:=l145_1 h above ha s (by omega) r[s] hrow hq 0 (Av _) n h0 (by omega)
   rw[show((0:Nat):Int)=0 from rfl,As] at k1
   rw[k1,wr ((s:Int)+1) (by omega),e2,ih',Cb]
  rw[zFR,za r s hs,enE];simp only[zP];rw[if_pos e1,if_pos e0];simp only[Ai,js _ _ _ _ hs,zD,zO _ r s hs,h30r _ hrow,zQ,m1];rw[C230];simp only[zJ];have hr':zF EE 6 30 (jC z51)=true:=h30r z51 rfl;refine(congrArg (λb=>ifO b (ifO (By (YT EE 30 (.agg 2 (r[s].map eI)) (jC z51))) (ifO (AL (YT EE 30 (.agg 2 (r[s].map eI)) (jC z51)) false) _ _) none) none) hr').trans ?_
  rw[he,show zB 147 [eI (s:Int)]=some (.val (.tup [eWd s (zY s),eI 0])) by rw[c147,if_pos hr0,hr0]]
  simp only[AW,Ap,zD,zJ,z1,z8,zK,zN,h251,h46,Ad,zS,zW,zQ,zI,h153,h25,zR];by_cases hz':r[s]=z51
  ·have h0':=zGw w c ps above s r[s] 0 (λq hq=>by rw[hz'] at hq;exact A5 hq)
   rw[h0',Br] at ih';rw[h0',Bq];simp only[decide_eq_true hz',zD];rw[wr ((s:Int)+1) (by omega),e2,ih']
  ·simp only[hz',decide_false,zU];exact key
theorem c145(h:Valid w c r ps)(above:Int)(ha:0<=above/\above<=1):zB 145 [eMd w c r,.sl 2 (ps.map ePt),eI above]=some (.val (eI (jl w c r ps above))):=by
 rw[C145];simp only[zK,zN,h246,h81,h3,Ab,h.r.1,decide_true,Ad,zD,zQ,zS,zW,zh,zZ,zI,zR];have:=l145_0 h above ha 0 (Av _) 0 (by omega) (by omega)
 rw[Bq,As] at this;exact this
end
theorem Yk{f:Fm}(h:YO f=0)(hr:zu f.r):Valid f.w f.c f.r (zo f.s)/\jM f.s=0:=by
 obtain⟨h1,h2,h3,h4⟩:=zF3 h;obtain⟨hok,_,_,_,hl⟩:=Yz h1;exact⟨⟨(wakeE_ok h2).1,(wakeE_ok h2).2,(QY h3).1,hr,zFt h4,by simpa[zo] using hl,λp hp=>by
  obtain⟨t,ht,rfl⟩:=Aq.1 hp;exact(hok t ht).1⟩,h1⟩
theorem jA(s:Si):(zo s).length=s.tb.length:=by simp[zo]
theorem hMd(w:Wk)(c:Cu)(r:List (List Int))(h:zu r):zF EE 6 246 (eMd w c r)=true:=by rw[h246];simp[h.1]
theorem c144(f:Fm)(h:zu f.r):zB 144 [eFm f]=some (.val (eMd f.w f.c f.r)):=by rw[C144];simp only[zK,zN,hFm f h,Ad,zD,zQ,zS,zW,zh,zi,zZ,zI,zR]
theorem c202(w:Wk)(c:Cu)(r:List (List Int))(h:zu r):zB 202 [eMd w c r]=some (.val (eMd wkFree c r)):=by rw[C202];simp only[zK,zN,hMd w c r h,Ad,zD,zQ,zS,zW,zh,zi,zZ,zI,zR];rfl
section
variable[KnW](f:Fm)(h:zu f.r)
include h
def enF(f:Fm)(above:Int):Int:=if YO f=0 then jl f.w f.c f.r (zo f.s) above else 0
def Yj(f:Fm):Int:=if YO f=0 then jl wkFree f.c f.r (zo f.s) 0 else 0
theorem c30:zB 30 [eFm f]=some (.val (.tup [eI (enF f 0),eI (YO f)])):=by
 rw[C30];simp only[zK,zN,hFm f h,Ad,zD,zQ,zS,zW,zh,zi,zZ,zI,zR];simp only[c40 f h,zJ,h46,zD,zI];unfold enF;by_cases h0:YO f=0
 ·obtain⟨hv,hs⟩:=Yk h0 h;have hl:=hv.l;rw[jA] at hl;rw[if_pos h0];simp only[b00,bne0 h0,zU,if_true,c144 f h,zJ,hMd _ _ _ h,zD,c146 f.s (by omega),h81,zR,zQ,zS,zW,zh,zZ,zI,c145 hv 0 (by omega),h3,h0]
 ·rw[if_neg h0];simp only[bne1 h0,zD]
theorem c84:zB 84 [eFm f]=some (.val (.tup [eI (Yj f),eI (YO f)])):=by
 rw[C84];simp only[zK,zN,hFm f h,Ad,zD,zQ,zS,zW,zh,zi,zZ,zI,zR];simp only[c40 f h,zJ,h46,zD,zI];unfold Yj;by_cases h0:YO f=0
 ·obtain⟨hv,hs⟩:=Yk h0 h;have hl:=hv.l;rw[jA] at hl;have hv':Valid wkFree f.c f.r (zo f.s):=⟨⟨λd hd=>by simp[wkFree] at hd;omega,rfl,by simp[wkFree]⟩,by decide,hv.c,hv.r,hv.q,hv.l,hv.p⟩
  rw[if_pos h0];simp only[b00,bne0 h0,zU,if_true,c144 f h,zJ,hMd _ _ _ h,zD,c202 _ _ _ h,c146 f.s (by omega),h81,zR,zQ,zS,zW,zh,zZ,zI,c145 hv' 0 (by omega),h3,h0]
 ·rw[if_neg h0];simp only[bne1 h0,zD]
end
theorem c106(c:Cu)(v:Int):zB 106 [eCu c,eI v]=some (.val (.tup [eI (if zT [YK c,zf v 0 13056]=0 then YA c v else 0),eI (zT [YK c,zf v 0 13056])])):=by
 rw[C106];simp only[zK,zN,h60,h3,Ad,zD,zQ,zS,zW,zI,zR,c114,zJ,h46,c149,Qs];by_cases h0:zT [YK c,zf v 0 13056]=0
 ·have h1:=jE h0;have h2:=jW.1 (jE h1.2).1;rw[if_pos h0];simp only[b00,bne0 h0,zU,if_true,zGh c (QY h1.1).1 v h2.1 h2.2,zJ,h3,zD,zI,h0]
 ·rw[if_neg h0];simp only[bne1 h0,zD]
def chk3(s:Si)(w:Wk)(sec:Int):Int:=zT [jM s,wakeE w,zf sec 0 7]
theorem chk3_eq(s:Si)(w:Wk)(sec:Int):chk3 s w sec=if zT [jM s,wakeE w]=0 then zf sec 0 7 else zT [jM s,wakeE w]:=by
 unfold chk3 zT;by_cases h1:jM s=0
 ·by_cases h2:wakeE w=0
  ·by_cases h3:zf sec 0 7=0 <;> simp[h1,h2,h3,zT]
  ·simp[h1,h2,zT]
 ·simp[h1]
theorem c199(s:Si)(w:Wk)(sec:Int):zB 199 [eSi s,eWk w,eI sec]=some (.val (.tup [if chk3 s w sec=0 then eWd sec (zY sec) else eWd 0 ⟨0,0⟩,eI (chk3 s w sec)])):=by
 rw[C199,chk3_eq];simp only[zK,zN,h58,h59,h3,Ad,zD,zQ,zS,zW,zh,zZ,zI,zR,c158,c75,zJ,h46,Qs];by_cases h0:zT [jM s,wakeE w]=0
 ·rw[if_pos h0];simp only[b00,bne0 h0,zU,if_true,c147];by_cases h1:zf sec 0 7=0
  ·simp[h0,h1]
  ·simp[h0,h1]
 ·rw[if_neg h0];simp[bne1 h0,h0]
theorem chk3_ok{s:Si}{w:Wk}{sec:Int}(h:chk3 s w sec=0):zJR w/\ji w.rule=true/\(zo s).length<=64/\(∀p∈zo s,JP p)/\0<=sec/\sec<=7:=by
 obtain⟨h1,h2,h3⟩:=zAy h;obtain⟨hok,_,_,_,hl⟩:=Yz h1;have:=jW.1 h3;exact⟨(wakeE_ok h2).1,(wakeE_ok h2).2,by simpa[zo] using hl,λp hp=>by
  obtain⟨t,ht,rfl⟩:=Aq.1 hp;exact(hok t ht).1,this.1,this.2⟩
section
variable[KnW](s:Si)(w:Wk)(sec:Int)
theorem c77:zB 77 [eSi s,eWk w,eI sec]=some (.val (.tup [.sl 1 ((if chk3 s w sec=0 then JA w (zo s) sec (zY sec) else []).map eI),eI (chk3 s w sec)])):=by
 rw[C77];simp only[zK,zN,h58,h59,h3,Ad,zD,zQ,zS,zW,zh,zZ,zI,zR,c199,zJ,z1,z8];by_cases h0:chk3 s w sec=0
 ·obtain⟨a,b,hl,hp,_,_⟩:=chk3_ok h0;have hl':=hl;rw[jA] at hl';simp only[if_pos h0];simp only[b00,bne0 h0,zU,if_true,h251,h46,Ad,zD,zI,c146 s (by omega),zJ,h81,zR,zQ,zS,zW,c153 w (zo s) sec (zY sec) a b hl hp (zGC sec),h25,h0]
 ·simp only[if_neg h0];simp only[bne1 h0,h251,h46,Ad,zD,zI];rfl
def chk4(s:Si)(w:Wk)(sec v:Int):Int:=zT [chk3 s w sec,zf v 0 50]
theorem c78(v:Int):zB 78 [eSi s,eWk w,eI sec,eI v]=some (.val (.tup [.sl 1 ((if chk4 s w sec v=0 then jL (JA w (zo s) sec (zY sec)) v else []).map eI),eI (chk4 s w sec v)])):=by
 rw[C78];simp only[zK,zN,h58,h59,h3,Ad,zD,zQ,zS,zW,zh,zi,zZ,zI,zR,c199,zJ,z1,z8];have hT:zF EE 6 251 (if chk3 s w sec=0 then eWd sec (zY sec) else eWd 0 ⟨0,0⟩)=true:=by split <;> rw[h251]
 simp only[hT,h46,Ad,zD,zI,c149,zJ,Qs];have hc4:zT [chk3 s w sec,zf v 0 50]=chk4 s w sec v:=rfl;rw[hc4];by_cases h0:chk4 s w sec v=0
 ·have h1:=jE h0;have h2:=jW.1 (jE h1.2).1;obtain⟨a,b,hl,hp,_,_⟩:=chk3_ok h1.1;have hl':=hl;rw[jA] at hl';simp only[if_pos h0,if_pos h1.1,b00,bne0 h0,zU,if_true];simp only[c146 s (by omega),zJ,h81,zR,zQ,zS,zW,zI,zD,c153 w (zo s) sec (zY sec) a b hl hp (zGC sec),h25,h0,c152 _ v (by rw[jw];omega) (by omega) (j9 a (zo s) sec (zY sec))]
 ·simp only[if_neg h0,bne1 h0,zD];rfl
end
def powE(f:Fm)(sec v:Int):Int:=zT [YO f,zf sec 0 7,zf v 0 50]
def powF(f:Fm)(sec v:Int):List Int:=if v>=f.c.cut then Af f.s.tb.length 0 else qA f.w f.c (zo f.s) sec v 0
theorem c32[KnW](f:Fm)(h:zu f.r)(sec v:Int):zB 32 [eFm f,eI sec,eI v]=some (.val (.tup [.sl 1 ((if powE f sec v=0 then powF f sec v else []).map eI),eI (powE f sec v)])):=by
 rw[C32];simp only[zP];simp only[zK,zN,hFm f h,h3,Ad,zD,zQ,zS,zW,zh,zi,zZ,zI,zR];simp only[c40 f h,zJ,h46,zD,zI];by_cases h0:YO f=0
 ·obtain⟨hv,hs⟩:=Yk h0 h;have hl:=hv.l;rw[jA] at hl;have hpe:powE f sec v=zT [zf sec 0 7,zf v 0 50]:=by unfold powE;rw[zT,if_pos h0]
  have hT:zF EE 6 251 (if zf sec 0 7=0 then eWd sec (zY sec) else eWd 0 ⟨0,0⟩)=true:=by split <;> rw[h251]
  simp only[b00,bne0 h0,zU,if_true,c147];simp only[zJ,z1,z8,zK,zN,hT,h46,Ad,zD,zS,zW,zI,c149,Qs];rw[<-hpe];by_cases h1:powE f sec v=0
  ·rw[hpe] at h1;have h2:=jE h1;have h3':=jW.1 (jE h2.2).1;rw[<-hpe] at h1;rw[if_pos h1];simp only[bne0 h1,zU];unfold powF;by_cases h4:v>=f.c.cut
   ·refine(if_pos h4).trans ?_;rw[if_pos h4];have e1:(0:Int)<=(f.s.tb.length:Int):=by omega
    have e2:8 * (f.s.tb.length:Int)<=281474976710656:=by omega
    have e3:(f.s.tb.length:Int)<=9223372036854775807:=by omega
    simp[h1,e1,e2,e3]
   ·refine(if_neg h4).trans ?_;rw[if_neg h4,if_pos h2.1];have hcb:=j9 hv.w (zo f.s) sec (zY sec);have hsb:=qh hcb (v:=v) (b:=50) h3'.1 h3'.2;simp only[c146 f.s (by omega),zJ,h81,zR,zQ,zS,zW,zI,zD,c153 f.w (zo f.s) sec (zY sec) hv.w hv.k hv.l hv.p (zGC sec),h25,h1,
     c152 _ v (by rw[jw,jA];omega) (by omega) hcb,c151v f.c hv.c (jL (JA f.w (zo f.s) sec (zY sec)) v) (by simp[jL,jw,jA];omega) (λx hx=>by have:=hsb x hx;omega)]
    rw[qA,Br]
  ·rw[if_neg h1];simp only[bne1 h1,zD];rfl
 ·have hpe:powE f sec v=YO f:=by unfold powE;rw[zT,if_neg h0]
  rw[hpe,if_neg h0];simp only[bne1 h0,zD];rfl
end Go.Am
namespace Go.Am
open Go.Proofs
open Go
variable[OO]
structure SiteOK(S:Si)(W:Wk)(sec:Int):Prop where
 w:zJR W
 l:S.tb.length<=64
 p:∀t∈S.tb,JP t.at'
 s:0<=sec/\sec<=7
section
variable{s:Si}{w:Wk}{sec:Int}(h:SiteOK s w sec)
include h
end
section
variable(l:List Int)(hl:l.length<=64)(hb:∀x∈l,0<=x/\x<=256)
include hl hb
end
def qy(l:List Int):CR:=if l=[] then .val .nl else .fresh 1 (l.map eI)
def okFm(f:Fm):Prop:=Valid f.w f.c f.r (zo f.s)
theorem okFm.free{f:Fm}(h:okFm f):okFm { f with w:=wkFree } :=
 ⟨⟨λd hd=>by simp[wkFree] at hd;omega,rfl,by simp[wkFree]⟩,(show ji rM=true by decide),h.c,h.r,h.q,h.l,h.p⟩
end Go.Am
namespace Go.Am
open Go.Proofs
open Go
variable[OO]
theorem C44(x0 x1:DV):zB 44 [x0,x1] =
 ifO (zV (zF EE 6) [88,3] [x0,x1])
 (zH (zB 160 [(.agg 6 [(.sl 2 (elems (nth (flds x0) 0))),(eI (zC (nth (flds x0) 1))),(.agg 0 [(.str (zX (nth (flds (nth (flds x0) 2)) 0))),(.sl 1 (elems (nth (flds (nth (flds x0) 2)) 1))),(.sl 1 (elems (nth (flds (nth (flds x0) 2)) 2)))]),(.agg 1 [(.sl 1 (elems (nth (flds (nth (flds x0) 3)) 0))),(eI (zC (nth (flds (nth (flds x0) 3)) 1)))]),(.agg 3 (flds (nth (flds x0) 4)))])])
 (λr0=>ifO (zF EE 6 46 r0)
 (zH (zB 149 [(eI (zC x1)),(eI 0),(eI (((Aa (elems (nth (flds x0) 0))):Nat):Int))])
 (λr1=>ifO (zF EE 6 46 r1)
 (zH (zB 148 [(.sl 1 [(eI (zC r0)),(eI (zC r1))])])
 (λr2=>ifO (zF EE 6 46 r2)
 (ifO (bne (zC r2) 0)
 (some (.val (.tup [(.sl 1 []),(eI 0),(eI (zC r2))])))
 (zH (zB 161 [(.agg 6 [(.sl 2 (elems (nth (flds x0) 0))),(eI (zC (nth (flds x0) 1))),(.agg 0 [(.str (zX (nth (flds (nth (flds x0) 2)) 0))),(.sl 1 (elems (nth (flds (nth (flds x0) 2)) 1))),(.sl 1 (elems (nth (flds (nth (flds x0) 2)) 2)))]),(.agg 1 [(.sl 1 (elems (nth (flds (nth (flds x0) 3)) 0))),(eI (zC (nth (flds (nth (flds x0) 3)) 1)))]),(.agg 3 (flds (nth (flds x0) 4)))])])
 (λr3=>ifO (zF EE 6 268 r3)
 (zH (zB 163 [(.agg 6 [(.sl 2 (elems (nth (flds x0) 0))),(eI (zC (nth (flds x0) 1))),(.agg 0 [(.str (zX (nth (flds (nth (flds x0) 2)) 0))),(.sl 1 (elems (nth (flds (nth (flds x0) 2)) 1))),(.sl 1 (elems (nth (flds (nth (flds x0) 2)) 2)))]),(.agg 1 [(.sl 1 (elems (nth (flds (nth (flds x0) 3)) 0))),(eI (zC (nth (flds (nth (flds x0) 3)) 1)))]),(.agg 3 (flds (nth (flds x0) 4)))])])
 (λr4=>ifO (zF EE 6 25 r4)
 (zH (zB 162 [(.dp (undp r3)),(.sl 1 (elems r4)),(.sl 1 []),(eI (zC x1))])
 (λr5=>ifO ((DV.isTup r5) && (zV (zF EE 6) [266,4] (tups r5)))
 (ifO (!(jm (nth (tups r5) 1)))
 (some (.val (.tup [(.sl 1 []),(eI 0),(eI 24)])))
 (some (.val (.tup [(.sl 1 (elems (nth (flds (nth (tups r5) 0)) 0))),(eI (zC (nth (flds (nth (tups r5) 0)) 1))),(eI 0)]))))
 (none))
 (λ_ _=>none))
 (none))
 (λ_ _=>none))
 (none))
 (λ_ _=>none)))
 (none))
 (λ_ _=>none))
 (none))
 (λ_ _=>none))
 (none))
 (λ_ _=>none))
 (none) :=
 (zM (f:=44) (by kernel_rfl) (by kernel_rfl) (by kernel_rfl) [x0,x1]).trans (by kernel_rfl)
theorem C160(x0:DV):zB 160 [x0] =
 ifO (zV (zF EE 6) [88] [x0])
 (zH (zB 49 [(.agg 6 [(.sl 2 (elems (nth (flds x0) 0))),(eI (zC (nth (flds x0) 1))),(.agg 0 [(.str (zX (nth (flds (nth (flds x0) 2)) 0))),(.sl 1 (elems (nth (flds (nth (flds x0) 2)) 1))),(.sl 1 (elems (nth (flds (nth (flds x0) 2)) 2)))]),(.agg 1 [(.sl 1 (elems (nth (flds (nth (flds x0) 3)) 0))),(eI (zC (nth (flds (nth (flds x0) 3)) 1)))]),(.agg 3 (flds (nth (flds x0) 4)))])])
 (λr0=>ifO (zF EE 6 46 r0)
 (zH (zB 169 [(.bool (decide ((((Aa (elems (nth (flds x0) 0))):Nat):Int)>(8:Int)))),(eI 23)])
 (λr1=>ifO (zF EE 6 46 r1)
 (zH (zB 148 [(.sl 1 [(eI (zC r0)),(eI (zC r1))])])
 (λr2=>ifO (zF EE 6 46 r2)
 (some (.val (eI (zC r2))))
 (none))
 (λ_ _=>none))
 (none))
 (λ_ _=>none))
 (none))
 (λ_ _=>none))
 (none) :=
 (zM (f:=160) (by kernel_rfl) (by kernel_rfl) (by kernel_rfl) [x0]).trans (by kernel_rfl)
def S49_0a(v0:List DV)(v1 v2 v3:Int)(v4:ByteArray)(v5 v6 v7:List DV)(v8:Int)(v9:List DV):St :=
 zr 50 [(1,(.ptr 1 415 0 [])),(12,(.d (.sl 2 v0))),(13,(.d (eI v1))),(14,(.d (eI v2)))] [(1,(.mk false (.dc 415 [(.agg 6 [(.sl 2 v0),(eI v3),(.agg 0 [(.str v4),(.sl 1 v5),(.sl 1 v6)]),(.agg 1 [(.sl 1 v7),(eI v8)]),(.agg 3 v9)])])))]
noncomputable def zIa(v0:List DV)(v1 v2 v3:Int)(v4:ByteArray)(v5 v6 v7:List DV)(v8:Int)(v9:List DV):Option CR:=goQ 49 0 (S49_0a v0 v1 v2 v3 v4 v5 v6 v7 v8 v9)
theorem zHQ(v0:List DV)(v1 v2 v3:Int)(v4:ByteArray)(v5 v6 v7:List DV)(v8:Int)(v9:List DV):zIa v0 v1 v2 v3 v4 v5 v6 v7 v8 v9 =
 ifO (decide (v2<v1))
 (ifO (decide (((0:Int)<=v2)/\(v2<(((Aa v0):Nat):Int))))
 (ifO (zF EE 6 141 (nth v0 (Ac v2)))
 (ifO (decide ((0:Int)<=v2))
 (ifO (decide ((0<=(Ac v2))/\((Ac v2)<=(Aa v0))))
 (zH (zB 166 [(.sl 2 (AF 0 (AA (Ac v2) v0))),(.fn 167 [] [(.dp (.agg 1 [(eI (zC (nth (flds (nth v0 (Ac v2))) 0))),(eI (zC (nth (flds (nth v0 (Ac v2))) 1)))]))])])
 (λr0=>ifO (zF EE 6 4 r0)
 (zH (zB 168 [(.agg 1 [(eI (zC (nth (flds (nth v0 (Ac v2))) 0))),(eI (zC (nth (flds (nth v0 (Ac v2))) 1)))])])
 (λr1=>ifO (zF EE 6 46 r1)
 (zH (zB 169 [(.bool (jm r0)),(eI 9)])
 (λr2=>ifO (zF EE 6 46 r2)
 (zH (zB 148 [(.sl 1 [(eI (zC r1)),(eI (zC r2))])])
 (λr3=>ifO (zF EE 6 46 r3)
 (ifO (bne (zC r3) 0)
 (some (.val (eI (zC r3))))
 ((zIa v0 v1 (Ae .i64 (v2+(1:Int))) v3 v4 v5 v6 v7 v8 v9)))
 (none))
 (λ_ _=>none))
 (none))
 (λ_ _=>none))
 (none))
 (λ_ _=>none))
 (none))
 (λ_ _=>none))
 (none))
 (none))
 (none))
 (none))
 (zH (zB 158 [(.agg 0 [(.str (bs [112,108,97,110])),(eI v3),(.sl 3 [])])])
 (λr12=>ifO (zF EE 6 46 r12)
 (zH (zB 75 [(.agg 0 [(.str v4),(.sl 1 v5),(.sl 1 v6)])])
 (λr13=>ifO (zF EE 6 46 r13)
 (zH (zB 114 [(.agg 1 [(.sl 1 v7),(eI v8)])])
 (λr14=>ifO (zF EE 6 46 r14)
 (zH (zB 159 [(.agg 3 v9)])
 (λr15=>ifO (zF EE 6 46 r15)
 (zH (zB 148 [(.sl 1 [(eI (zC r12)),(eI (zC r13)),(eI (zC r14)),(eI (zC r15))])])
 (λr16=>ifO (zF EE 6 46 r16)
 (some (.val (eI (zC r16))))
 (none))
 (λ_ _=>none))
 (none))
 (λ_ _=>none))
 (none))
 (λ_ _=>none))
 (none))
 (λ_ _=>none))
 (none))
 (λ_ _=>none)) :=
 (zb 49 0 _).trans (by kernel_rfl)
theorem C49(x0:DV):zB 49 [x0] =
 ifO (zV (zF EE 6) [88] [x0])
 (ifO (decide ((((Aa (elems (nth (flds x0) 0))):Nat):Int)>(64:Int)))
 (some (.val (eI 5)))
 ((zIa (elems (nth (flds x0) 0)) (((Aa (elems (nth (flds x0) 0))):Nat):Int) (0:Int) (zC (nth (flds x0) 1)) (zX (nth (flds (nth (flds x0) 2)) 0)) (elems (nth (flds (nth (flds x0) 2)) 1)) (elems (nth (flds (nth (flds x0) 2)) 2)) (elems (nth (flds (nth (flds x0) 3)) 0)) (zC (nth (flds (nth (flds x0) 3)) 1)) (flds (nth (flds x0) 4)))))
 (none) :=
 (zM (f:=49) (by kernel_rfl) (by kernel_rfl) (by kernel_rfl) [x0]).trans (by kernel_rfl)
theorem C166(x0 x1:DV):zB 166 [x0,x1] =
 ifO (zV (zF EE 6) [81,275] [x0,x1])
 (zH (zB 244 [(.sl 2 (elems x0)),(.fn (zDz x1) (fnA x1) (fnC x1))])
 (λr0=>ifO (zF EE 6 3 r0)
 (some (.val (.bool (decide ((zC r0)>=(0:Int))))))
 (none))
 (λ_ _=>none))
 (none) :=
 (zM (f:=166) (by kernel_rfl) (by kernel_rfl) (by kernel_rfl) [x0,x1]).trans (by kernel_rfl)
def S244_0a(v0:List DV)(v1:Nat)(v2 v3:List DV)(v4 v5:Int):St :=
 zr 19 [(0,(.d (.sl 2 v0))),(1,(.d (.fn v1 v2 v3))),(7,(.d (eI v4))),(8,(.d (eI v5)))] []
noncomputable def zCr(v0:List DV)(v1:Nat)(v2 v3:List DV)(v4 v5:Int):Option CR:=goQ 244 0 (S244_0a v0 v1 v2 v3 v4 v5)
theorem zEw(v0:List DV)(v1:Nat)(v2 v3:List DV)(v4 v5:Int):zCr v0 v1 v2 v3 v4 v5 =
 ifO (decide (v5<v4))
 (ifO (decide (((0:Int)<=v5)/\(v5<(((Aa v0):Nat):Int))))
 (ifO (zF EE 6 141 (nth v0 (Ac v5)))
 (zH (zB v1 (zy EE v1 ((v2++[(.agg 1 [(eI (zC (nth (flds (nth v0 (Ac v5))) 0))),(eI (zC (nth (flds (nth v0 (Ac v5))) 1)))])])++v3)))
 (λr0=>ifO (zF EE 6 4 r0)
 (ifO (jm r0)
 (some (.val (eI v5)))
 ((zCr v0 v1 v2 v3 v4 (Ae .i64 (v5+(1:Int))))))
 (none))
 (λ_ _=>none))
 (none))
 (none))
 (some (.val (eI (-1)))) :=
 (zb 244 0 _).trans (by kernel_rfl)
theorem C244(x0 x1:DV):zB 244 [x0,x1] =
 ifO (zV (zF EE 6) [81,275] [x0,x1])
 ((zCr (elems x0) (zDz x1) (fnA x1) (fnC x1) (((Aa (elems x0)):Nat):Int) (0:Int)))
 (none) :=
 (zM (f:=244) (by kernel_rfl) (by kernel_rfl) (by kernel_rfl) [x0,x1]).trans (by kernel_rfl)
theorem C167(x0 x1:DV):zB 167 [x0,x1] =
 ifO (((zV (zF EE 6) [141] [x0]) && true) && (List.all [x1] zHy))
 (ifO (zF EE 6 141 (undp x1))
 (some (.val (.bool (ifO.match_1 (λy994=>Bool) false (λy339=>(!(AL (YT EE 141 (.agg 1 [(eI (zC (nth (flds (undp x1)) 0))),(eI (zC (nth (flds (undp x1)) 1)))]) (.agg 1 [(eI (zC (nth (flds x0) 0))),(eI (zC (nth (flds x0) 1)))])) false))) (λy124=>(AL (YT EE 141 (.agg 1 [(eI (zC (nth (flds (undp x1)) 0))),(eI (zC (nth (flds (undp x1)) 1)))]) (.agg 1 [(eI (zC (nth (flds x0) 0))),(eI (zC (nth (flds x0) 1)))])) false))))))
 (none))
 (none) :=
 (zM (f:=167) (by kernel_rfl) (by kernel_rfl) (by kernel_rfl) [x0,x1]).trans (by kernel_rfl)
def S163_0a(v0:Int):St :=
 zr 17 [(3,(.d .nl)),(7,(.d (eI v0))),(8,(.d (eI 0)))] []
noncomputable def L163_0a(v0:Int):Option CR:=goQ 163 0 (S163_0a v0)
def S163_0b(v0:List DV)(v1 v2:Int):St :=
 zr 17 [(3,(.own 14 0 (Aa v0) 1)),(7,(.d (eI v1))),(8,(.d (eI v2)))] [(14,(.mk false (.dc 1 v0)))]
noncomputable def zCt(v0:List DV)(v1 v2:Int):Option CR:=goQ 163 0 (S163_0b v0 v1 v2)
theorem L163_0a_eq(v0:Int):L163_0a v0 =
 ifO (decide ((0:Int)<v0))
 ((zCt [(eI 0)] v0 (1:Int)))
 (some (.val (.sl 1 []))) :=
 (zb 163 0 _).trans (by kernel_rfl)
theorem zFB(v0:List DV)(v1 v2:Int):zCt v0 v1 v2 =
 ifO (decide (v2<v1))
 (ifO (decide ((Aa v0)=(Aa v0)))
 (ifO (decide ((((2 * ((Aa v0)+1))+200) * 8)<=281474976710656))
 ((zCt (v0++[(eI v2)]) v1 (Ae .i64 (v2+(1:Int)))))
 (none))
 (none))
 (ifO (decide ((0+(Aa v0))<=(Aa v0)))
 (some (.val (.sl 1 (AA (Aa v0) (AF 0 v0)))))
 (none)) :=
 (zb 163 0 _).trans (by kernel_rfl)
theorem C163(x0:DV):zB 163 [x0] =
 ifO (zV (zF EE 6) [88] [x0])
 ((L163_0a (((Aa (elems (nth (flds x0) 0))):Nat):Int)))
 (none) :=
 (zM (f:=163) (by kernel_rfl) (by kernel_rfl) (by kernel_rfl) [x0]).trans (by kernel_rfl)
def S162_0a(v0:DV)(v1 v2:List DV)(v3 v4 v5:Int):St :=
 zr 79 [(0,(.d (.dp v0))),(1,(.d (.sl 1 v1))),(2,(.d (.sl 1 v2))),(3,(.d (eI v3))),(8,(.ptr 8 2 0 [])),(10,(.ptr 10 2 0 [])),(11,(.d (.bool false))),(25,(.d (.sl 1 v1))),(26,(.d (eI v4))),(27,(.d (eI v5)))] [(8,(.mk false (.dc 2 [(.agg 1 [.nl,(eI 0)])]))),(10,(.mk false (.dc 2 [(.agg 1 [.nl,(eI 0)])])))]
noncomputable def QM(v0:DV)(v1 v2:List DV)(v3 v4 v5:Int):Option CR:=goQ 162 0 (S162_0a v0 v1 v2 v3 v4 v5)
def S162_1a(v0:DV)(v1 v2:List DV)(v3 v4 v5 v6 v7 v8:Int):St :=
 zr 79 [(0,(.d (.dp v0))),(1,(.d (.sl 1 v1))),(2,(.d (.sl 1 v2))),(3,(.d (eI v3))),(8,(.ptr 8 2 0 [])),(10,(.ptr 10 2 0 [])),(11,(.d (.bool false))),(12,(.d (eI v4))),(13,(.d (eI v5))),(25,(.d (.sl 1 v1))),(26,(.d (eI v6))),(27,(.d (eI v4))),(32,(.d (.sl 1 v2))),(33,(.d (eI v7))),(34,(.d (eI v8)))] [(8,(.mk false (.dc 2 [(.agg 1 [.nl,(eI 0)])]))),(10,(.mk false (.dc 2 [(.agg 1 [.nl,(eI 0)])])))]
noncomputable def zFF(v0:DV)(v1 v2:List DV)(v3 v4 v5 v6 v7 v8:Int):Option CR:=goQ 162 1 (S162_1a v0 v1 v2 v3 v4 v5 v6 v7 v8)
def S162_0b(v0:DV)(v1 v2:List DV)(v3 v4 v5:Int)(v6:List DV)(v7:Int):St :=
 zr 79 [(0,(.d (.dp v0))),(1,(.d (.sl 1 v1))),(2,(.d (.sl 1 v2))),(3,(.d (eI v3))),(8,(.ptr 8 2 0 [])),(10,(.ptr 10 2 0 [])),(11,(.d (.bool true))),(25,(.d (.sl 1 v1))),(26,(.d (eI v4))),(27,(.d (eI v5)))] [(8,(.mk false (.dc 2 [(.agg 1 [.nl,(eI 0)])]))),(10,(.mk false (.dc 2 [(.agg 1 [(.sl 1 v6),(eI v7)])])))]
noncomputable def JN(v0:DV)(v1 v2:List DV)(v3 v4 v5:Int)(v6:List DV)(v7:Int):Option CR:=goQ 162 0 (S162_0b v0 v1 v2 v3 v4 v5 v6 v7)
def S162_1b(v0:DV)(v1 v2:List DV)(v3 v4 v5 v6 v7 v8:Int)(v9:List DV)(v10:Int):St :=
 zr 79 [(0,(.d (.dp v0))),(1,(.d (.sl 1 v1))),(2,(.d (.sl 1 v2))),(3,(.d (eI v3))),(8,(.ptr 8 2 0 [])),(10,(.ptr 10 2 0 [])),(11,(.d (.bool true))),(12,(.d (eI v4))),(13,(.d (eI v5))),(25,(.d (.sl 1 v1))),(26,(.d (eI v6))),(27,(.d (eI v4))),(32,(.d (.sl 1 v2))),(33,(.d (eI v7))),(34,(.d (eI v8)))] [(8,(.mk false (.dc 2 [(.agg 1 [.nl,(eI 0)])]))),(10,(.mk false (.dc 2 [(.agg 1 [(.sl 1 v9),(eI v10)])])))]
noncomputable def zFD(v0:DV)(v1 v2:List DV)(v3 v4 v5 v6 v7 v8:Int)(v9:List DV)(v10:Int):Option CR:=goQ 162 1 (S162_1b v0 v1 v2 v3 v4 v5 v6 v7 v8 v9 v10)
theorem zB3(v0:DV)(v1 v2:List DV)(v3 v4 v5:Int):QM v0 v1 v2 v3 v4 v5 =
 ifO (decide (v5<v4))
 (ifO (decide (((0:Int)<=v5)/\(v5<(((Aa v1):Nat):Int))))
 (ifO (zF EE 6 3 (nth v1 (Ac v5)))
 ((zFF v0 v1 v2 v3 v5 (zC (nth v1 (Ac v5))) v4 (((Aa v2):Nat):Int) (0:Int)))
 (none))
 (none))
 (some (.val (.tup [(.agg 1 [(.sl 1 []),(eI 0)]),(.bool false)]))) :=
 (zb 162 0 _).trans (by kernel_rfl)
theorem zFE(v0:DV)(v1 v2:List DV)(v3 v4 v5 v6 v7 v8:Int):zFF v0 v1 v2 v3 v4 v5 v6 v7 v8 =
 ifO (decide (v8<v7))
 (ifO (decide (((0:Int)<=v8)/\(v8<(((Aa v2):Nat):Int))))
 (ifO (zF EE 6 3 (nth v2 (Ac v8)))
 (ifO (jK 16 2 v0)
 (ifO (decide ((0:Int)<=(zC (nth v2 (Ac v8)))))
 (ifO (jK 15 (Ac (zC (nth v2 (Ac v8)))) (nth (flds v0) 2))
 (ifO (decide ((0:Int)<=v5))
 (ifO (jK 14 (Ac v5) (nth (flds (nth (flds v0) 2)) (Ac (zC (nth v2 (Ac v8))))))
 (ifO (zF EE 6 4 (nth (flds (nth (flds (nth (flds v0) 2)) (Ac (zC (nth v2 (Ac v8)))))) (Ac v5)))
 (ifO (jm (nth (flds (nth (flds (nth (flds v0) 2)) (Ac (zC (nth v2 (Ac v8)))))) (Ac v5)))
 ((QM v0 v1 v2 v3 v6 (Ae .i64 (v4+(1:Int)))))
 ((zFF v0 v1 v2 v3 v4 v5 v6 v7 (Ae .i64 (v8+(1:Int))))))
 (none))
 (none))
 (none))
 (none))
 (none))
 (none))
 (none))
 (none))
 (ifO (decide ((0:Int)<=(Ae .i64 (v4+(1:Int)))))
 (ifO (decide (((Ac (Ae .i64 (v4+(1:Int))))<=(Aa v1))/\((Aa v1)<=(Aa v1))))
 (zH (zB 243 [(.sl 1 v2)])
 (λr3=>ifO (zJc r3)
 (zH (zB 162 [(.dp v0),(.sl 1 (AF (Ac (Ae .i64 (v4+(1:Int)))) (AA (Aa v1) v1))),(.sl 1 [(eI v5)]),(eI (Ae .i64 (v3 - (1:Int))))])
 (λr4=>ifO ((DV.isTup r4) && (zV (zF EE 6) [266,4] (tups r4)))
 (ifO (jm (nth (tups r4) 1))
 ((JN v0 v1 v2 v3 v6 (Ae .i64 (v4+(1:Int))) (elems (nth (flds (nth (tups r4) 0)) 0)) (zC (nth (flds (nth (tups r4) 0)) 1))))
 ((QM v0 v1 v2 v3 v6 (Ae .i64 (v4+(1:Int))))))
 (none))
 (λ_ _=>none))
 (none))
 (λs7 l8=>ifO (s7 == 1)
 (ifO (decide ((Aa l8)=(Aa l8)))
 (ifO (decide ((((2 * ((Aa l8)+1))+200) * 8)<=281474976710656))
 (ifO (decide ((0+(Aa (l8++[(eI v5)])))<=(Aa (l8++[(eI v5)]))))
 (zH (zB 162 [(.dp v0),(.sl 1 (AF (Ac (Ae .i64 (v4+(1:Int)))) (AA (Aa v1) v1))),(.sl 1 (AA (Aa (l8++[(eI v5)])) (AF 0 (l8++[(eI v5)])))),(eI (Ae .i64 (v3 - (1:Int))))])
 (λr9=>ifO ((DV.isTup r9) && (zV (zF EE 6) [266,4] (tups r9)))
 (ifO (jm (nth (tups r9) 1))
 ((JN v0 v1 v2 v3 v6 (Ae .i64 (v4+(1:Int))) (elems (nth (flds (nth (tups r9) 0)) 0)) (zC (nth (flds (nth (tups r9) 0)) 1))))
 ((QM v0 v1 v2 v3 v6 (Ae .i64 (v4+(1:Int))))))
 (none))
 (λ_ _=>none))
 (none))
 (none))
 (none))
 (none)))
 (none))
 (none)) :=
 (zb 162 1 _).trans (by kernel_rfl)
theorem zFG(v0:DV)(v1 v2:List DV)(v3 v4 v5:Int)(v6:List DV)(v7:Int):JN v0 v1 v2 v3 v4 v5 v6 v7 =
 ifO (decide (v5<v4))
 (ifO (decide (((0:Int)<=v5)/\(v5<(((Aa v1):Nat):Int))))
 (ifO (zF EE 6 3 (nth v1 (Ac v5)))
 ((zFD v0 v1 v2 v3 v5 (zC (nth v1 (Ac v5))) v4 (((Aa v2):Nat):Int) (0:Int) v6 v7))
 (none))
 (none))
 (some (.val (.tup [(.agg 1 [(.sl 1 v6),(eI v7)]),(.bool true)]))) :=
 (zb 162 0 _).trans (by kernel_rfl)
theorem zFC(v0:DV)(v1 v2:List DV)(v3 v4 v5 v6 v7 v8:Int)(v9:List DV)(v10:Int):zFD v0 v1 v2 v3 v4 v5 v6 v7 v8 v9 v10 =
 ifO (decide (v8<v7))
 (ifO (decide (((0:Int)<=v8)/\(v8<(((Aa v2):Nat):Int))))
 (ifO (zF EE 6 3 (nth v2 (Ac v8)))
 (ifO (jK 16 2 v0)
 (ifO (decide ((0:Int)<=(zC (nth v2 (Ac v8)))))
 (ifO (jK 15 (Ac (zC (nth v2 (Ac v8)))) (nth (flds v0) 2))
 (ifO (decide ((0:Int)<=v5))
 (ifO (jK 14 (Ac v5) (nth (flds (nth (flds v0) 2)) (Ac (zC (nth v2 (Ac v8))))))
 (ifO (zF EE 6 4 (nth (flds (nth (flds (nth (flds v0) 2)) (Ac (zC (nth v2 (Ac v8)))))) (Ac v5)))
 (ifO (jm (nth (flds (nth (flds (nth (flds v0) 2)) (Ac (zC (nth v2 (Ac v8)))))) (Ac v5)))
 ((JN v0 v1 v2 v3 v6 (Ae .i64 (v4+(1:Int))) v9 v10))
 ((zFD v0 v1 v2 v3 v4 v5 v6 v7 (Ae .i64 (v8+(1:Int))) v9 v10)))
 (none))
 (none))
 (none))
 (none))
 (none))
 (none))
 (none))
 (none))
 (ifO (decide ((0:Int)<=(Ae .i64 (v4+(1:Int)))))
 (ifO (decide (((Ac (Ae .i64 (v4+(1:Int))))<=(Aa v1))/\((Aa v1)<=(Aa v1))))
 (zH (zB 243 [(.sl 1 v2)])
 (λr12=>ifO (zJc r12)
 (zH (zB 162 [(.dp v0),(.sl 1 (AF (Ac (Ae .i64 (v4+(1:Int)))) (AA (Aa v1) v1))),(.sl 1 [(eI v5)]),(eI (Ae .i64 (v3 - (1:Int))))])
 (λr13=>ifO ((DV.isTup r13) && (zV (zF EE 6) [266,4] (tups r13)))
 (ifO (jm (nth (tups r13) 1))
 (ifO (decide ((zC (nth (flds (nth (tups r13) 0)) 1))>v10))
 ((JN v0 v1 v2 v3 v6 (Ae .i64 (v4+(1:Int))) (elems (nth (flds (nth (tups r13) 0)) 0)) (zC (nth (flds (nth (tups r13) 0)) 1))))
 ((JN v0 v1 v2 v3 v6 (Ae .i64 (v4+(1:Int))) v9 v10)))
 ((JN v0 v1 v2 v3 v6 (Ae .i64 (v4+(1:Int))) v9 v10)))
 (none))
 (λ_ _=>none))
 (none))
 (λs16 l17=>ifO (s16 == 1)
 (ifO (decide ((Aa l17)=(Aa l17)))
 (ifO (decide ((((2 * ((Aa l17)+1))+200) * 8)<=281474976710656))
 (ifO (decide ((0+(Aa (l17++[(eI v5)])))<=(Aa (l17++[(eI v5)]))))
 (zH (zB 162 [(.dp v0),(.sl 1 (AF (Ac (Ae .i64 (v4+(1:Int)))) (AA (Aa v1) v1))),(.sl 1 (AA (Aa (l17++[(eI v5)])) (AF 0 (l17++[(eI v5)])))),(eI (Ae .i64 (v3 - (1:Int))))])
 (λr18=>ifO ((DV.isTup r18) && (zV (zF EE 6) [266,4] (tups r18)))
 (ifO (jm (nth (tups r18) 1))
 (ifO (decide ((zC (nth (flds (nth (tups r18) 0)) 1))>v10))
 ((JN v0 v1 v2 v3 v6 (Ae .i64 (v4+(1:Int))) (elems (nth (flds (nth (tups r18) 0)) 0)) (zC (nth (flds (nth (tups r18) 0)) 1))))
 ((JN v0 v1 v2 v3 v6 (Ae .i64 (v4+(1:Int))) v9 v10)))
 ((JN v0 v1 v2 v3 v6 (Ae .i64 (v4+(1:Int))) v9 v10)))
 (none))
 (λ_ _=>none))
 (none))
 (none))
 (none))
 (none)))
 (none))
 (none)) :=
 (zb 162 1 _).trans (by kernel_rfl)
theorem C162(x0 x1 x2 x3:DV):zB 162 [x0,x1,x2,x3] =
 ifO (zV (zF EE 6) [268,25,25,3] [x0,x1,x2,x3])
 (ifO ((zC x3) == (0:Int))
 (zH (zB 242 [(.dp (undp x0)),(.sl 1 (elems x2))])
 (λr0=>ifO (zF EE 6 3 r0)
 (some (.val (.tup [(.agg 1 [(.sl 1 (elems x2)),(eI (zC r0))]),(.bool true)])))
 (none))
 (λ_ _=>none))
 ((QM (undp x0) (elems x1) (elems x2) (zC x3) (((Aa (elems x1)):Nat):Int) (0:Int))))
 (none) :=
 (zM (f:=162) (by kernel_rfl) (by kernel_rfl) (by kernel_rfl) [x0,x1,x2,x3]).trans (by kernel_rfl)
theorem C242(x0 x1:DV):zB 242 [x0,x1] =
 ifO (zV (zF EE 6) [268,25] [x0,x1])
 (ifO (jK 16 1 (undp x0))
 (ifO (zF EE 6 246 (nth (flds (undp x0)) 1))
 (zH (zB 283 [(.sl 1 (elems x1)),(.fn 284 [] [(.dp (.dp (undp x0)))])])
 (λr0=>ifO (zF EE 6 81 r0)
 (zH (zB 145 [(.agg 13 [(.agg 0 [(.str (zX (nth (flds (nth (flds (nth (flds (undp x0)) 1)) 0)) 0))),(.sl 1 (elems (nth (flds (nth (flds (nth (flds (undp x0)) 1)) 0)) 1))),(.sl 1 (elems (nth (flds (nth (flds (nth (flds (undp x0)) 1)) 0)) 2)))]),(.agg 1 [(.sl 1 (elems (nth (flds (nth (flds (nth (flds (undp x0)) 1)) 1)) 0))),(eI (zC (nth (flds (nth (flds (nth (flds (undp x0)) 1)) 1)) 1)))]),(.agg 3 (flds (nth (flds (nth (flds (undp x0)) 1)) 2)))]),(.sl 2 (elems r0)),(eI 0)])
 (λr1=>ifO (zF EE 6 3 r1)
 (some (.val (eI (zC r1))))
 (none))
 (λ_ _=>none))
 (none))
 (λ_ _=>none))
 (none))
 (none))
 (none) :=
 (zM (f:=242) (by kernel_rfl) (by kernel_rfl) (by kernel_rfl) [x0,x1]).trans (by kernel_rfl)
def S283_0a(v0:Nat)(v1 v2 v3:List DV)(v4:Int):St :=
 zr 22 [(1,(.d (.fn v0 v1 v2))),(5,(.d .nl)),(8,(.d (.sl 1 v3))),(9,(.d (eI v4))),(10,(.d (eI 0)))] []
noncomputable def L283_0a(v0:Nat)(v1 v2 v3:List DV)(v4:Int):Option CR:=goQ 283 0 (S283_0a v0 v1 v2 v3 v4)
def S283_0b(v0:Nat)(v1 v2 v3 v4:List DV)(v5 v6:Int):St :=
 zr 22 [(1,(.d (.fn v0 v1 v2))),(5,(.own 19 0 (Aa v3) 2)),(8,(.d (.sl 1 v4))),(9,(.d (eI v5))),(10,(.d (eI v6)))] [(19,(.mk false (.dc 2 v3)))]
noncomputable def zEu(v0:Nat)(v1 v2 v3 v4:List DV)(v5 v6:Int):Option CR:=goQ 283 0 (S283_0b v0 v1 v2 v3 v4 v5 v6)
theorem L283_0a_eq(v0:Nat)(v1 v2 v3:List DV)(v4:Int):L283_0a v0 v1 v2 v3 v4 =
 ifO (decide ((0:Int)<v4))
 (ifO (decide (((0:Int)<=(0:Int))/\((0:Int)<(((Aa v3):Nat):Int))))
 (ifO (zF EE 6 3 (nth v3 0))
 (zH (zB v0 (zy EE v0 ((v1++[(eI (zC (nth v3 0)))])++v2)))
 (λr0=>ifO (zF EE 6 141 r0)
 ((zEu v0 v1 v2 [(.agg 1 [(eI (zC (nth (flds r0) 0))),(eI (zC (nth (flds r0) 1)))])] v3 v4 (1:Int)))
 (none))
 (λ_ _=>none))
 (none))
 (none))
 (some (.val (.sl 2 []))) :=
 (zb 283 0 _).trans (by kernel_rfl)
theorem zEt(v0:Nat)(v1 v2 v3 v4:List DV)(v5 v6:Int):zEu v0 v1 v2 v3 v4 v5 v6 =
 ifO (decide (v6<v5))
 (ifO (decide (((0:Int)<=v6)/\(v6<(((Aa v4):Nat):Int))))
 (ifO (zF EE 6 3 (nth v4 (Ac v6)))
 (zH (zB v0 (zy EE v0 ((v1++[(eI (zC (nth v4 (Ac v6))))])++v2)))
 (λr3=>ifO (zF EE 6 141 r3)
 (ifO (decide ((Aa v3)=(Aa v3)))
 (ifO (decide ((((2 * ((Aa v3)+1))+200) * 16)<=281474976710656))
 ((zEu v0 v1 v2 (v3++[(.agg 1 [(eI (zC (nth (flds r3) 0))),(eI (zC (nth (flds r3) 1)))])]) v4 v5 (Ae .i64 (v6+(1:Int)))))
 (none))
 (none))
 (none))
 (λ_ _=>none))
 (none))
 (none))
 (ifO (decide ((0+(Aa v3))<=(Aa v3)))
 (some (.val (.sl 2 (AA (Aa v3) (AF 0 v3)))))
 (none)) :=
 (zb 283 0 _).trans (by kernel_rfl)
theorem C283(x0 x1:DV):zB 283 [x0,x1] =
 ifO (zV (zF EE 6) [25,309] [x0,x1])
 ((L283_0a (zDz x1) (fnA x1) (fnC x1) (elems x0) (((Aa (elems x0)):Nat):Int)))
 (none) :=
 (zM (f:=283) (by kernel_rfl) (by kernel_rfl) (by kernel_rfl) [x0,x1]).trans (by kernel_rfl)
theorem C284(x0 x1:DV):zB 284 [x0,x1] =
 ifO (((zV (zF EE 6) [3] [x0]) && true) && (List.all [x1] zHy))
 (ifO (zF EE 6 268 (undp x1))
 (ifO (jK 16 0 (undp (undp x1)))
 (ifO (jK 6 0 (nth (flds (undp (undp x1))) 0))
 (ifO (zF EE 6 81 (nth (flds (nth (flds (undp (undp x1))) 0)) 0))
 (ifO (decide (((0:Int)<=(zC x0))/\((zC x0)<(((Aa (elems (nth (flds (nth (flds (undp (undp x1))) 0)) 0))):Nat):Int))))
 (ifO (zF EE 6 141 (nth (elems (nth (flds (nth (flds (undp (undp x1))) 0)) 0)) (Ac (zC x0))))
 (some (.val (.agg 1 [(eI (zC (nth (flds (nth (elems (nth (flds (nth (flds (undp (undp x1))) 0)) 0)) (Ac (zC x0)))) 0))),(eI (zC (nth (flds (nth (elems (nth (flds (nth (flds (undp (undp x1))) 0)) 0)) (Ac (zC x0)))) 1)))])))
 (none))
 (none))
 (none))
 (none))
 (none))
 (none))
 (none) :=
 (zM (f:=284) (by kernel_rfl) (by kernel_rfl) (by kernel_rfl) [x0,x1]).trans (by kernel_rfl)
theorem C108(x0:DV):zB 108 [x0] =
 ifO (zV (zF EE 6) [60] [x0])
 (zH (zB 114 [(.agg 1 [(.sl 1 (elems (nth (flds x0) 0))),(eI (zC (nth (flds x0) 1)))])])
 (λr0=>ifO (zF EE 6 46 r0)
 (ifO (bne (zC r0) 0)
 (some (.val (.tup [(.str (bs [])),(eI (zC r0))])))
 (ifO (decide ((((2 * (1+(Aa (elems (nth (flds x0) 0)))))+200) * 8)<=281474976710656))
 (ifO (decide ((0+(Aa ([(eI (zC (nth (flds x0) 1)))]++(elems (nth (flds x0) 0)))))<=(Aa ([(eI (zC (nth (flds x0) 1)))]++(elems (nth (flds x0) 0))))))
 (zH (zB 209 [(.sl 1 (AA (Aa ([(eI (zC (nth (flds x0) 1)))]++(elems (nth (flds x0) 0)))) (AF 0 ([(eI (zC (nth (flds x0) 1)))]++(elems (nth (flds x0) 0)))))),(.fn 210 [] [])])
 (λr1=>ifO (zF EE 6 173 r1)
 (zH (zB 208 [(.sl 1 (elems r1)),(.str (bs [32]))])
 (λr2=>ifO (zF EE 6 9 r2)
 (some (.val (.tup [(.str (zX r2)),(eI 0)])))
 (none))
 (λ_ _=>none))
 (none))
 (λ_ _=>none))
 (none))
 (none)))
 (none))
 (λ_ _=>none))
 (none) :=
 (zM (f:=108) (by kernel_rfl) (by kernel_rfl) (by kernel_rfl) [x0]).trans (by kernel_rfl)
def S209_0a(v0:Nat)(v1 v2 v3:List DV)(v4:Int):St :=
 zr 22 [(1,(.d (.fn v0 v1 v2))),(5,(.d .nl)),(8,(.d (.sl 1 v3))),(9,(.d (eI v4))),(10,(.d (eI 0)))] []
noncomputable def L209_0a(v0:Nat)(v1 v2 v3:List DV)(v4:Int):Option CR:=goQ 209 0 (S209_0a v0 v1 v2 v3 v4)
def S209_0b(v0:Nat)(v1 v2 v3 v4:List DV)(v5 v6:Int):St :=
 zr 22 [(1,(.d (.fn v0 v1 v2))),(5,(.own 19 0 (Aa v3) 1)),(8,(.d (.sl 1 v4))),(9,(.d (eI v5))),(10,(.d (eI v6)))] [(19,(.mk false (.dc 1 v3)))]
noncomputable def zE3(v0:Nat)(v1 v2 v3 v4:List DV)(v5 v6:Int):Option CR:=goQ 209 0 (S209_0b v0 v1 v2 v3 v4 v5 v6)
theorem L209_0a_eq(v0:Nat)(v1 v2 v3:List DV)(v4:Int):L209_0a v0 v1 v2 v3 v4 =
 ifO (decide ((0:Int)<v4))
 (ifO (decide (((0:Int)<=(0:Int))/\((0:Int)<(((Aa v3):Nat):Int))))
 (ifO (zF EE 6 3 (nth v3 0))
 (zH (zB v0 (zy EE v0 ((v1++[(eI (zC (nth v3 0)))])++v2)))
 (λr0=>ifO (zF EE 6 9 r0)
 ((zE3 v0 v1 v2 [(.str (zX r0))] v3 v4 (1:Int)))
 (none))
 (λ_ _=>none))
 (none))
 (none))
 (some (.val (.sl 1 []))) :=
 (zb 209 0 _).trans (by kernel_rfl)
theorem zE2(v0:Nat)(v1 v2 v3 v4:List DV)(v5 v6:Int):zE3 v0 v1 v2 v3 v4 v5 v6 =
 ifO (decide (v6<v5))
 (ifO (decide (((0:Int)<=v6)/\(v6<(((Aa v4):Nat):Int))))
 (ifO (zF EE 6 3 (nth v4 (Ac v6)))
 (zH (zB v0 (zy EE v0 ((v1++[(eI (zC (nth v4 (Ac v6))))])++v2)))
 (λr3=>ifO (zF EE 6 9 r3)
 (ifO (decide ((Aa v3)=(Aa v3)))
 (ifO (decide ((((2 * ((Aa v3)+1))+200) * 16)<=281474976710656))
 ((zE3 v0 v1 v2 (v3++[(.str (zX r3))]) v4 v5 (Ae .i64 (v6+(1:Int)))))
 (none))
 (none))
 (none))
 (λ_ _=>none))
 (none))
 (none))
 (ifO (decide ((0+(Aa v3))<=(Aa v3)))
 (some (.val (.sl 1 (AA (Aa v3) (AF 0 v3)))))
 (none)) :=
 (zb 209 0 _).trans (by kernel_rfl)
theorem C209(x0 x1:DV):zB 209 [x0,x1] =
 ifO (zV (zF EE 6) [25,280] [x0,x1])
 ((L209_0a (zDz x1) (fnA x1) (fnC x1) (elems x0) (((Aa (elems x0)):Nat):Int)))
 (none) :=
 (zM (f:=209) (by kernel_rfl) (by kernel_rfl) (by kernel_rfl) [x0,x1]).trans (by kernel_rfl)
end Go.Am
namespace Go.Am
open Go.Proofs
open Go
abbrev Ch:=Option (List Nat×Int)
def pick:Ch->Ch->Ch
 | none,b=>b
 | some x,none=>some x
 | some x,some y=>if y.2>x.2 then some y else some x
theorem zC3(a:Ch):pick a none=a:=by cases a <;> rfl
theorem zEP(a b c:Ch):pick (pick a b) c=pick a (pick b c):=by
 cases a with
 | none=>rfl
 | some x =>
  cases b with
  | none=>rfl
  | some y =>
   cases c with
   | none=>rw[zC3,zC3]
   | some z =>
    simp only[pick];by_cases h1:y.2>x.2
    ·by_cases h2:z.2>y.2
     ·rw[if_pos h1,if_pos h2];show(if z.2>y.2 then some z else some y)=if z.2>x.2 then some z else some x
      rw[if_pos h2,if_pos (by omega)]
     ·rw[if_pos h1,if_neg h2];show(if z.2>y.2 then some z else some y)=if y.2>x.2 then some y else some x
      simp only[h1,h2,if_true,if_false]
    ·by_cases h2:z.2>y.2
     ·rw[if_neg h1,if_pos h2]
     ·rw[if_neg h1,if_neg h2];show(if z.2>x.2 then some z else some x)=if y.2>x.2 then some y else some x
      rw[if_neg h1,if_neg (by omega)]
section
variable(en:List Nat->Int)
def j7(near:Nat->Nat->Bool):List Nat->List Nat->Nat->Ch
 | _,taken,0=>some (taken,en taken)
 | [],_,_+1=>none
 | i :: l,taken,n+1=>pick (if taken.any (λt=>near t i) then none else j7 near l (taken++[i]) n) (j7 near l taken (n+1))
theorem zG0{a b:Ch}{r:List Nat×Int}(h:pick a b=some r):a=some r\/b=some r:=by
 cases a with
 | none=>exact .inr h
 | some x =>
  cases b with
  | none=>exact .inl h
  | some y =>
   simp only[pick] at h;split at h
   ·exact .inr h
   ·exact .inl h
end
def IsMax(S:Int->Prop)(o:Option Int):Prop:=match o with | none=>∀x,¬S x | some m=>S m/\∀x,S x->x<=m
theorem IsMax.unique{S:Int->Prop}{a b:Option Int}(h:IsMax S a)(k:IsMax S b):a=b:=by
 cases a with
 | none =>
  cases b with
  | none=>rfl
  | some y=>exact absurd k.1 (h y)
 | some x =>
  cases b with
  | none=>exact absurd h.1 (k x)
  | some y =>
   have h1:=h.2 y k.1;have h2:=k.2 x h.1;have:x=y:=by omega
   rw[this]
end Go.Am
namespace Go.Am
open Go.Proofs
open Go
def jP(p:Pn)(j i:Nat):Bool :=
 decide (i<p.ps.length/\j<p.ps.length/\i≠j) && decide (jQ (p.ps.getD i default) (p.ps.getD j default)<p.least * p.least)
abbrev eNear(p:Pn):DV:=.agg 15 ((Aj 8).map λj=>.agg 14 ((Aj 8).map λi=>.bool (jP p j i)))
abbrev eSe(p:Pn):DV:=.agg 16 [ePn p,eMd p.w p.c p.r,eNear p]
def zGI(prev:List Pt)(p:Pt):Int:=zT [ptE p,if prev.any (λq=>decide (p=q)) then 9 else 0]
def JE:List Pt->List Pt->Int
 | _,[]=>0
 | prev,p :: r=>if zGI prev p=0 then JE (prev++[p]) r else zGI prev p
def restE(p:Pn):Int:=zT [zf p.least 1 1000,wakeE p.w,YK p.c,qj p.r]
def zAU(p:Pn):Int:=if 64<p.ps.length then 5 else if JE [] p.ps=0 then restE p else JE [] p.ps
def zJi(p:Pn):Int:=zT [zAU p,if 8<p.ps.length then 23 else 0]
def zCe(p:Pn)(n:Int):Int:=zT [zJi p,zf n 0 p.ps.length]
def enP(p:Pn)(l:List Nat):Int:=jl p.w p.c p.r (l.map λi=>p.ps.getD i default) 0
class KnS[OO]:Prop where
 clone:∀l:List Int,l.length<=100000->zB 243 [.sl 1 (l.map eI)]=some (qy l)
 search:∀p:Pn,zu p.r->p.ps.length<=8->(∀q∈p.ps,JP q)->1<=p.least->p.least<=1000->zB 161 [ePn p]=some (.val (.dp (eSe p)))
 itoa:∀n:Int,-9223372036854775808<=n->n<=9223372036854775807->zB 210 [eI n]=some (.val (.str ⟨(AZ n).toArray⟩))
 join:∀(l:List ByteArray) (s:ByteArray),l.length<=1000->(∀x∈l,x.size<=1000)->s.size<=1000->zB 208 [.sl 1 (l.map .str),.str s]=some (.val (.str ⟨(AY (l.map (·.data.toList)) s.data.toList).toArray⟩))
variable[OO]
theorem c167(a b:Pt):zB 167 [ePt b,.dp (ePt a)]=some (.val (.bool (decide (a=b)))):=by
 rw[C167];have e:YT EE 141 (ePt a) (ePt b)=some (decide (a=b)):=by
  refine(show YT EE 141 (.agg 1 [eI a.x,eI a.y]) (.agg 1 [eI b.x,eI b.y])=some ((a.x == b.x) && ((a.y == b.y) && true)) by kernel_rfl).trans ?_
  obtain⟨ax,ay⟩:=a;obtain⟨bx,by'⟩:=b
  by_cases h1:ax=bx <;> by_cases h2:ay=by' <;> simp[h1,h2]
 simp only[zK,zN,h141,Ad,zD,QG,zQ,zS,zW,zI,m1,e,Ap];simp[zHy]
theorem l244(x:Pt)(l:List Pt)(hl:l.length<=100000):∀i,i<=l.length->∃k:Int,zCr (l.map ePt) 167 [] [.dp (ePt x)] l.length i=some (.val (eI k))/\decide (k>=0)=(l.drop i).any λq=>decide (x=q):=by
 apply down (P:=λi=>∃k:Int,zCr (l.map ePt) 167 [] [.dp (ePt x)] l.length i=some (.val (eI k))/\decide (k>=0)=(l.drop i).any λq=>decide (x=q))
 ·rw[zEw];exact⟨-1,by simp,by simp⟩
 ·intro i hi ih;obtain⟨k,h1,h2⟩:=ih;have e1:(i:Int)<l.length:=by omega
  have e0:(0:Int)<=(i:Int):=by omega
  have hc:zB 167 (zy EE 167 [ePt l[i],.dp (ePt x)])=some (.val (.bool (decide (x=l[i])))):=(congrArg (zB 167) (show zy EE 167 [ePt l[i],.dp (ePt x)]=[ePt l[i],.dp (ePt x)] by kernel_rfl)).trans (c167 x l[i])
  rw[zEw,za l i hi];simp only[zP];simp only[Ab,e1,e0,and_self,if_true,Ai,zO _ l i hi,h141,zD,zQ,zS,zW,zI,AC,A9,hc,zJ,h4,zp];rw[wr ((i:Int)+1) (by omega),show((i:Int)+1)=((i+1:Nat):Int) by omega,BE]
  by_cases hx:x=l[i]
  ·exact⟨i,by simp[hx],by simp[hx]⟩
  ·exact⟨k,by simp only[decide_eq_false hx,zU];exact h1,by rw[h2,decide_eq_false hx,BG]⟩
theorem c166(x:Pt)(l:List Pt)(hl:l.length<=100000):zB 166 [.sl 2 (l.map ePt),.fn 167 [] [.dp (ePt x)]]=some (.val (.bool (l.any λq=>decide (x=q)))):=by
 obtain⟨k,h1,h2⟩:=l244 x l hl 0 (Av _);have h3:zB 244 [.sl 2 (l.map ePt),.fn 167 [] [.dp (ePt x)]]=some (.val (eI k)):=by rw[C244];simp only[zK,zN,h81,h275,Ad,zD,zR,Yb,QA,q0,Ab];exact h1
 rw[C166];simp only[zK,zN,h81,h275,Ad,zD,zR,Yb,QA,q0,h3,zJ,Am.h3,zI];rw[As] at h2;exact congrArg (λb=>some (CR.val (DV.bool b))) h2
theorem site0(name:ByteArray)(hn:jJ name=true)(least:Int):jM ⟨name,least,[]⟩=zf least 1 1000:=by
 unfold jM;simp only[hn,if_true,Bx,jY];rcases zCV least 1 1000 with h | h <;> simp[h,zT]
theorem name_plan:jJ (bs [112,108,97,110])=true:=by decide
theorem l49(p:Pn)(hr:zu p.r)(hl:p.ps.length<=64):∀i,i<=p.ps.length->zIa (p.ps.map ePt) p.ps.length i p.least p.w.rule (p.w.d.map eI) (p.w.w.map eI) (p.c.p.map eI) p.c.cut (p.r.map jC) =
  some (.val (eI (if JE (p.ps.take i) (p.ps.drop i)=0 then restE p else JE (p.ps.take i) (p.ps.drop i)))):=by
 apply down
 ·rw[zHQ];have hs:zB 158 [.agg 0 [.str (bs [112,108,97,110]),.int .i64 p.least,.sl 3 []]]=some (.val (eI (zf p.least 1 1000))):=(c158 ⟨bs [112,108,97,110],p.least,[]⟩).trans (by rw[site0 _ name_plan])
  simp only[zP,A6,if_false];simp only[hs,zJ,h46,zD,zI,c75,c114,c159 p.r hr,c148_4,Bu,JE,if_true];rfl
 ·intro i hi ih;have e1:(i:Int)<p.ps.length:=by omega
  have e0:(0:Int)<=(i:Int):=by omega
  have e2:i<=p.ps.length:=by omega
  have hc:=c166 p.ps[i] (p.ps.take i) (by simp;omega)
  rw[List.map_take] at hc;rw[zHQ,za p.ps i hi];simp only[zP];simp only[Ab,e1,e0,e2,Av,and_self,if_true,Ai,zO _ p.ps i hi,h141,zD,zQ,zS,zW,zI,As,hc,zJ,h4,zp,c168,h46,c169,Qs];rw[wr ((i:Int)+1) (by omega),show((i:Int)+1)=((i+1:Nat):Int) by omega,ih,JE,AO hi]
  by_cases hz:zGI (p.ps.take i) p.ps[i]=0
  ·refine(congrArg (λb=>ifO b _ _) (bne0 hz)).trans ?_
   rw[zU,if_pos hz]
  ·refine(congrArg (λb=>ifO b _ _) (bne1 hz)).trans ?_
   rw[zD,if_neg hz,if_neg hz];rfl
theorem hPn(p:Pn)(hr:zu p.r):zF EE 6 88 (ePn p)=true:=by rw[h88];simp[hr.1]
theorem c49(p:Pn)(hr:zu p.r):zB 49 [ePn p]=some (.val (eI (zAU p))):=by
 rw[C49];simp only[zP];simp only[zK,zN,hPn p hr,Ad,zD,zQ,zS,zW,zh,zi,je,zZ,zI,zR,Ab];unfold zAU;by_cases h:64<p.ps.length
 ·rw[if_pos (by omega),if_pos h]
 ·rw[if_neg (by omega),if_neg h]
  have:=l49 p hr (by omega) 0 (Av _)
  simpa using this
theorem c160(p:Pn)(hr:zu p.r):zB 160 [ePn p]=some (.val (eI (zJi p))):=by
 rw[C160];simp only[zK,zN,hPn p hr,Ad,zD,zQ,zS,zW,zh,zi,je,zZ,zI,zR,Ab,c49 p hr,zJ,h46,c169,Qs,decide_eq_true_eq];have e:((p.ps.length:Int)>8)=(8<p.ps.length):=propext (by omega)
 simp only[e];rfl
theorem zDV:∀{l prev:List Pt},JE prev l=0->∀p∈l,JP p
 | [],_,_,p,h=>by simp at h
 | x :: r,prev,h,p,hp=>by
  unfold JE at h;split at h
  ·rename_i h0;rcases A3.1 hp with rfl | hp
   ·exact(zDs _).1 (jE h0).1
   ·exact zDV h p hp
  ·rename_i h0;exact absurd h h0
structure PlanOK(P:Pn):Prop where
 v:Valid P.w P.c P.r P.ps
 l:P.ps.length<=8
 least:1<=P.least/\P.least<=1000
 go:JE [] P.ps=0
theorem zH3{p:Pn}(h:zJi p=0)(hr:zu p.r):PlanOK p:=by
 obtain⟨h1,h2⟩:=jE h;have h2:=(jE h2).1;have hl:p.ps.length<=8:=by
  rcases Nat.lt_or_ge 8 p.ps.length with hh | hh
  ·rw[if_pos hh] at h2;simp at h2
  ·exact hh
 unfold zAU at h1;rw[if_neg (by omega)] at h1
 split at h1
 ·rename_i hg;obtain⟨a,b,c,d⟩:=zF3 h1;exact⟨⟨(wakeE_ok b).1,(wakeE_ok b).2,(QY c).1,hr,zFt d,by omega,zDV hg⟩,hl,jW.1 a,hg⟩
 ·rename_i hg;exact absurd h1 hg
theorem zBP(l:List Pt)(i:Nat)(h:i<l.length):l.getD i default=l[i]:=by rw[An,Ah h];rfl
theorem c284(p:Pn)(i:Nat)(h:i<p.ps.length):zB 284 [eN i,.dp (.dp (eSe p))]=some (.val (ePt (p.ps.getD i default))):=by
 rw[C284,zBP p.ps i h];have e1:(i:Int)<p.ps.length:=by omega
 have e0:(0:Int)<=(i:Int):=by omega
 simp only[zK,zN,h3,h268,Ad,zD,QG,zQ,zS,zW,zR,h81,zI,Ab,e1,e0,and_self,decide_true,Ai,zO _ p.ps i h,h141];simp[zHy,jK]
theorem l283b(p:Pn)(l:List Nat)(hl:l.length<=100000)(hi:∀i∈l,i<p.ps.length):∀k,k<=l.length->zEu 284 [] [.dp (.dp (eSe p))] ((l.take k).map λi=>ePt (p.ps.getD i default)) (l.map eN) l.length k=some (.val (.sl 2 ((l.map λi=>p.ps.getD i default).map ePt))):=by
 apply down
 ·rw[zEt];simp;exact(AE (by simp)).trans (by simp)
 ·intro k hk ih;have e1:(k:Int)<l.length:=by omega
  have hx:zB 284 (zy EE 284 [eN l[k],.dp (.dp (eSe p))])=some (.val (ePt (p.ps.getD l[k] default))):=(congrArg (zB 284) (show zy EE 284 [eN l[k],.dp (.dp (eSe p))]=[eN l[k],.dp (.dp (eSe p))] by kernel_rfl)).trans (c284 p l[k] (hi _ (Ag hk)))
  have hm:min k l.length=k:=by omega
  have e2:(2 * (k+1)+200) * 16<=281474976710656:=by omega
  have e0:(0:Int)<=(k:Int):=by omega
  rw[<-ih,zEt];simp only[zP];simp only[Ab,Bt,hm,e1,e0,e2,and_self,if_true,Ai,zO _ l k hk,h3,zD,zI,AC,A9,hx,zJ,h141,zQ,zS,zW];rw[wr ((k:Int)+1) (by omega),AO hk,AM]
  rfl
theorem c283(p:Pn)(l:List Nat)(hl:l.length<=100000)(hi:∀i∈l,i<p.ps.length):zB 283 [.sl 1 (l.map eN),.fn 284 [] [.dp (.dp (eSe p))]]=some (.val (.sl 2 ((l.map λi=>p.ps.getD i default).map ePt))):=by
 rw[C283];simp only[zK,zN,h25,h309,Ad,zD,zR,Yb,QA,q0,Ab];rw[L283_0a_eq];simp only[zP];by_cases h:l=[]
 ·simp[h]
 ·have h0:0<l.length:=AU.2 h;have h1:=l283b p l hl hi 1 (by omega)
  have hx:zB 284 (zy EE 284 [eN l[0],.dp (.dp (eSe p))])=some (.val (ePt (p.ps.getD l[0] default))):=(congrArg (zB 284) (show zy EE 284 [eN l[0],.dp (.dp (eSe p))]=[eN l[0],.dp (.dp (eSe p))] by kernel_rfl)).trans (c284 p l[0] (hi _ (Ag h0)))
  have e1:(0:Int)<l.length:=by omega
  rw[tk1 l h0] at h1;simp only[Ab,e1,Ci,and_self,if_true,zO _ l 0 h0,h3,zD,zI,AC,A9,hx,zJ,h141,zQ,zS,zW];simpa using h1
theorem c242[KnW](p:Pn)(h:PlanOK p)(l:List Nat)(hl:l.length<=64)(hi:∀i∈l,i<p.ps.length):zB 242 [.dp (eSe p),.sl 1 (l.map eN)]=some (.val (eI (enP p l))):=by
 have hv:Valid p.w p.c p.r (l.map λi=>p.ps.getD i default):=⟨h.v.w,h.v.k,h.v.c,h.v.r,h.v.q,by simpa using hl,λq hq=>by
  obtain⟨i,hi',rfl⟩:=Aq.1 hq;rw[zBP p.ps i (hi i hi')];exact h.v.p _ (Ag _)⟩
 rw[C242];simp only[zK,zN,h268,h25,Ad,zD,QG,zQ,zS,zW,zh,zR,hMd _ _ _ h.v.r,c283 p l (by omega) hi,zJ,h81,zZ,zI,c145 hv 0 (by omega),h3]
 simp[jK,enP]
def eR:Ch->CR
 | none=>.val (.tup [.agg 1 [.sl 1 [],eI 0],.bool false])
 | some (c,e)=>.val (.tup [.agg 1 [.sl 1 (c.map eN),eI e],.bool true])
theorem zHv(l:List Nat):l.map eN=(l.map (B7:Nat->Int)).map eI:=by rw[Bn];rfl
section
variable[KnW][KnS](p:Pn)(h:PlanOK p)
include h
theorem zJU(t i:Nat)(ht:t<8)(hi:i<8):nth (flds (nth (flds (nth (flds (eSe p)) 2)) t)) i=.bool (jP p t i):=by
 have e1:nth (flds (nth (flds (eSe p)) 2)) t=.agg 14 ((Aj 8).map λi=>.bool (jP p t i)):=by
  show nth ((Aj 8).map λj=>.agg 14 ((Aj 8).map λi=>.bool (jP p j i))) t=_
  rw[zO _ _ t (by simpa using ht),Aw]
 rw[e1,zQ,zO _ _ i (by simpa using hi),Aw]
def Rec(p:Pn)(l:List Nat):Prop:=∀(taken:List Nat) (n:Nat),taken.length+n<=64->(∀i∈l,i<p.ps.length)->(∀i∈taken,i<p.ps.length) ->
 zB 162 [.dp (eSe p),.sl 1 (l.map eN),.sl 1 (taken.map eN),eN n]=some (eR (j7 (enP p) (jP p) l taken n))
theorem clone'(l:List Nat)(hl:l.length<=64):zB 243 [.sl 1 (l.map eN)]=some (if l=[] then .val .nl else .fresh 1 (l.map eN)):=by
 rw[zHv,KnS.clone _ (by simp;omega)]
 unfold qy;by_cases h:l=[]
 ·simp[h]
 ·simp[h]
theorem l162_1a(l taken:List Nat)(m:Nat)(hm:taken.length+(m+1)<=64)(k:Nat)(hk:k<l.length)(hll:l.length<=1000)(hl:∀i∈l,i<p.ps.length)(ht:∀i∈taken,i<p.ps.length)(hrec:Rec p (l.drop (k+1))) :
  ∀q,q<=taken.length->zFF (eSe p) (l.map eN) (taken.map eN) ((m+1:Nat):Int) k (l[k]:Nat) l.length taken.length q =
   match (if (taken.drop q).any (λt=>jP p t l[k]) then none else j7 (enP p) (jP p) (l.drop (k+1)) (taken++[l[k]]) m:Ch) with
   | none=>QM (eSe p) (l.map eN) (taken.map eN) ((m+1:Nat):Int) l.length ((k+1:Nat):Int)
   | some (c,e)=>JN (eSe p) (l.map eN) (taken.map eN) ((m+1:Nat):Int) l.length ((k+1:Nat):Int) (c.map eN) e:=by
 have h8:=h.l;have hi8:l[k]<8:=by have:=hl _ (Ag hk);omega
 apply down
 ·have hr:=hrec (taken++[l[k]]) m (by simp;omega) (λi hi=>hl i (BO hi)) (λi hi=>by
   rcases Bw.1 hi with hi | hi
   ·exact ht i hi
   ·simp at hi;subst hi;exact hl _ (Ag hk))
  rw[zFE];have e2:((k:Int)+1)=((k+1:Nat):Int):=by omega
  have e3:(((m+1:Nat):Int) - 1)=(m:Int):=by omega
  have e4:(0:Int)<=((k+1:Nat):Int):=by omega
  have e5:k+1<=l.length:=by omega
  have e6:(2 * (taken.length+1)+200) * 8<=281474976710656:=by omega
  have w1:Ay.wrap ((k+1:Nat):Int)=((k+1:Nat):Int):=wr _ (by omega)
  have w2:Ay.wrap (m:Int)=(m:Int):=wr _ (by omega)
  have hdr:AF (k+1) (AA l.length (BA eN l))=(l.drop (k+1)).map eN:=by rw[AE (by simp),B8]
  have htk:AA (taken.map eN++[DV.int .i64 (l[k]:Int)]).length (taken.map eN++[DV.int .i64 (l[k]:Int)])=(taken++[l[k]]).map eN:=by rw[AJ];simp
  simp only[zP];simp only[A6,if_false,e2,w1,e4,if_true,Ai,Ab,e5,Al,and_self,hdr,clone' p h taken (by omega),e3,w2,As,htk,Bu,B9,AG]
  by_cases h0:taken=[]
  ·subst h0;simp only[if_true,zJ,zJc,zD];simp only[AC,A4,Bm] at hr;rw[hr];simp only[AC];cases j7 (enP p) (jP p) (l.drop (k+1)) [l[k]] m with
   | none=>simp only[eR,zJ,z1,z8,zK,zN,h266,h4,Ad,zD,zW,zp,zU]
   | some x=>simp only[eR,zJ,z1,z8,zK,zN,h266,h4,Ad,zD,zS,zW,zp,zQ,zR,zI]
  ·simp only[h0,if_false,qr,beq_self_eq_true,zD,Bk,Ab,AS,Bx,AK,Al,if_true,e6];rw[show taken.length+1=(taken.map eN++[DV.int .i64 (l[k]:Int)]).length by simp,htk,hr]
   cases j7 (enP p) (jP p) (l.drop (k+1)) (taken++[l[k]]) m with
   | none=>simp only[eR,zJ,z1,z8,zK,zN,h266,h4,Ad,zD,zW,zp,zU]
   | some x=>simp only[eR,zJ,z1,z8,zK,zN,h266,h4,Ad,zD,zS,zW,zp,zQ,zR,zI]
 ·intro q hq ih;have ht8:taken[q]<8:=by have:=ht _ (Ag hq);omega
  have e1:(q:Int)<taken.length:=by omega
  have e0:(0:Int)<=(q:Int):=by omega
  have e2:(0:Int)<=(taken[q]:Int):=by omega
  have e3:(0:Int)<=(l[k]:Int):=by omega
  have hn:=zJU p h taken[q] l[k] ht8 hi8;rw[zFE,za taken q hq,BE];simp only[zP];simp only[Ab,e1,e0,e2,e3,and_self,if_true,Ai,zO _ taken q hq,h3,zD,zI,hn,h4,zp];have a1:jK 16 2 (eSe p)=true:=rfl;have a2:jK 15 taken[q] (nth (flds (eSe p)) 2)=true:=by simp[jK];omega
  have a3:jK 14 l[k] (nth (flds (nth (flds (eSe p)) 2)) taken[q])=true:=by
   have e1:nth (flds (nth (flds (eSe p)) 2)) taken[q]=.agg 14 ((Aj 8).map λi=>.bool (jP p taken[q] i)):=by
    show nth ((Aj 8).map λj=>.agg 14 ((Aj 8).map λi=>.bool (jP p j i))) taken[q]=_
    rw[zO _ _ _ (by simpa using ht8),Aw]
   rw[e1];simp[jK];omega
  simp only[a1,a2,a3,zD];rw[wr ((k:Int)+1) (by omega),wr ((q:Int)+1) (by omega),show((q:Int)+1)=((q+1:Nat):Int) by omega,show((k:Int)+1)=((k+1:Nat):Int) by omega]
  cases hnn:jP p taken[q] l[k] with
  | true=>simp
  | false=>simp only[zU,ih,BG]
theorem l162_1b(c0:List Nat)(e0':Int)(l taken:List Nat)(m:Nat)(hm:taken.length+(m+1)<=64)(k:Nat)(hk:k<l.length)(hll:l.length<=1000)(hl:∀i∈l,i<p.ps.length)(ht:∀i∈taken,i<p.ps.length)(hrec:Rec p (l.drop (k+1))) :
  ∀q,q<=taken.length->zFD (eSe p) (l.map eN) (taken.map eN) ((m+1:Nat):Int) k (l[k]:Nat) l.length taken.length q (c0.map eN) e0' =
   match (if (taken.drop q).any (λt=>jP p t l[k]) then none else j7 (enP p) (jP p) (l.drop (k+1)) (taken++[l[k]]) m:Ch) with
   | none=>JN (eSe p) (l.map eN) (taken.map eN) ((m+1:Nat):Int) l.length ((k+1:Nat):Int) (c0.map eN) e0'
   | some (c,e)=>if e>e0' then JN (eSe p) (l.map eN) (taken.map eN) ((m+1:Nat):Int) l.length ((k+1:Nat):Int) (c.map eN) e else JN (eSe p) (l.map eN) (taken.map eN) ((m+1:Nat):Int) l.length ((k+1:Nat):Int) (c0.map eN) e0':=by
 have h8:=h.l;have hi8:l[k]<8:=by have:=hl _ (Ag hk);omega
 apply down
 ·have hr:=hrec (taken++[l[k]]) m (by simp;omega) (λi hi=>hl i (BO hi)) (λi hi=>by
   rcases Bw.1 hi with hi | hi
   ·exact ht i hi
   ·simp at hi;subst hi;exact hl _ (Ag hk))
  rw[zFC];have e2:((k:Int)+1)=((k+1:Nat):Int):=by omega
  have e3:(((m+1:Nat):Int) - 1)=(m:Int):=by omega
  have e4:(0:Int)<=((k+1:Nat):Int):=by omega
  have e5:k+1<=l.length:=by omega
  have e6:(2 * (taken.length+1)+200) * 8<=281474976710656:=by omega
  have w1:Ay.wrap ((k+1:Nat):Int)=((k+1:Nat):Int):=wr _ (by omega)
  have w2:Ay.wrap (m:Int)=(m:Int):=wr _ (by omega)
  have hdr:AF (k+1) (AA l.length (BA eN l))=(l.drop (k+1)).map eN:=by rw[AE (by simp),B8]
  have htk:AA (taken.map eN++[DV.int .i64 (l[k]:Int)]).length (taken.map eN++[DV.int .i64 (l[k]:Int)])=(taken++[l[k]]).map eN:=by rw[AJ];simp
  simp only[zP];simp only[A6,if_false,e2,w1,e4,if_true,Ai,Ab,e5,Al,and_self,hdr,clone' p h taken (by omega),e3,w2,As,htk,Bu,B9,AG]
  by_cases h0:taken=[]
  ·subst h0;simp only[if_true,zJ,zJc,zD];simp only[AC,A4,Bm] at hr;rw[hr];simp only[AC];cases j7 (enP p) (jP p) (l.drop (k+1)) [l[k]] m with
   | none=>simp only[eR,zJ,z1,z8,zK,zN,h266,h4,Ad,zD,zW,zp,zU]
   | some x=>simp only[eR,zJ,z1,z8,zK,zN,h266,h4,Ad,zD,zS,zW,zp,zQ,zR,zI];rfl
  ·simp only[h0,if_false,qr,beq_self_eq_true,zD,Bk,Ab,AS,Bx,AK,Al,if_true,e6];rw[show taken.length+1=(taken.map eN++[DV.int .i64 (l[k]:Int)]).length by simp,htk,hr]
   cases j7 (enP p) (jP p) (l.drop (k+1)) (taken++[l[k]]) m with
   | none=>simp only[eR,zJ,z1,z8,zK,zN,h266,h4,Ad,zD,zW,zp,zU]
   | some x=>simp only[eR,zJ,z1,z8,zK,zN,h266,h4,Ad,zD,zS,zW,zp,zQ,zR,zI];rfl
 ·intro q hq ih;have ht8:taken[q]<8:=by have:=ht _ (Ag hq);omega
  have e1:(q:Int)<taken.length:=by omega
  have e0:(0:Int)<=(q:Int):=by omega
  have e2:(0:Int)<=(taken[q]:Int):=by omega
  have e3:(0:Int)<=(l[k]:Int):=by omega
  have hn:=zJU p h taken[q] l[k] ht8 hi8;rw[zFC,za taken q hq,BE];simp only[zP];simp only[Ab,e1,e0,e2,e3,and_self,if_true,Ai,zO _ taken q hq,h3,zD,zI,hn,h4,zp];have a1:jK 16 2 (eSe p)=true:=rfl;have a2:jK 15 taken[q] (nth (flds (eSe p)) 2)=true:=by simp[jK];omega
  have a3:jK 14 l[k] (nth (flds (nth (flds (eSe p)) 2)) taken[q])=true:=by
   have e1:nth (flds (nth (flds (eSe p)) 2)) taken[q]=.agg 14 ((Aj 8).map λi=>.bool (jP p taken[q] i)):=by
    show nth ((Aj 8).map λj=>.agg 14 ((Aj 8).map λi=>.bool (jP p j i))) taken[q]=_
    rw[zO _ _ _ (by simpa using ht8),Aw]
   rw[e1];simp[jK];omega
  simp only[a1,a2,a3,zD];rw[wr ((k:Int)+1) (by omega),wr ((q:Int)+1) (by omega),show((q:Int)+1)=((q+1:Nat):Int) by omega,show((k:Int)+1)=((k+1:Nat):Int) by omega]
  cases hnn:jP p taken[q] l[k] with
  | true=>simp
  | false=>simp only[zU,ih,BG]
theorem l162_0(l taken:List Nat)(m:Nat)(hm:taken.length+(m+1)<=64)(hll:l.length<=1000)(hl:∀i∈l,i<p.ps.length)(ht:∀i∈taken,i<p.ps.length)(hrec:∀k,k<l.length->Rec p (l.drop (k+1))) :
  ∀k,k<=l.length->QM (eSe p) (l.map eN) (taken.map eN) ((m+1:Nat):Int) l.length k=some (eR (j7 (enP p) (jP p) (l.drop k) taken (m+1))) /\
   ∀(c:List Nat) (e:Int),JN (eSe p) (l.map eN) (taken.map eN) ((m+1:Nat):Int) l.length k (c.map eN) e=some (eR (pick (some (c,e)) (j7 (enP p) (jP p) (l.drop k) taken (m+1)))):=by
 apply down (P:=λk=>QM (eSe p) (l.map eN) (taken.map eN) ((m+1:Nat):Int) l.length k=some (eR (j7 (enP p) (jP p) (l.drop k) taken (m+1))) /\
   ∀(c:List Nat) (e:Int),JN (eSe p) (l.map eN) (taken.map eN) ((m+1:Nat):Int) l.length k (c.map eN) e=some (eR (pick (some (c,e)) (j7 (enP p) (jP p) (l.drop k) taken (m+1)))))
 ·refine⟨?_,λc e=>?_⟩
  ·rw[zB3];simp[j7,eR]
  ·rw[zFG];simp[j7,eR,pick]
 ·rintro k hk ⟨ih1,ih2⟩;have e1:(k:Int)<l.length:=by omega
  have e0:(0:Int)<=(k:Int):=by omega
  rw[za l k hk];refine⟨?_,λc e=>?_⟩
  ·have h1:=l162_1a p h l taken m hm k hk hll hl ht (hrec k hk) 0 (Av _);rw[show((0:Nat):Int)=0 from rfl,As] at h1
   rw[zB3,j7];simp only[zP];simp only[Ab,e1,e0,and_self,if_true,Ai,zO _ l k hk,h3,zD,zI];rw[h1];cases (if taken.any (λt=>jP p t l[k]) then none else j7 (enP p) (jP p) (l.drop (k+1)) (taken++[l[k]]) m:Ch) with
   | none=>exact ih1
   | some x=>exact ih2 x.1 x.2
  ·have h1:=l162_1b p h c e l taken m hm k hk hll hl ht (hrec k hk) 0 (Av _);rw[show((0:Nat):Int)=0 from rfl,As] at h1
   rw[zFG,j7,<-zEP];simp only[zP];simp only[Ab,e1,e0,and_self,if_true,Ai,zO _ l k hk,h3,zD,zI];rw[h1];cases (if taken.any (λt=>jP p t l[k]) then none else j7 (enP p) (jP p) (l.drop (k+1)) (taken++[l[k]]) m:Ch) with
   | none=>rw[zC3];exact ih2 c e
   | some x =>
    obtain⟨c',e'⟩:=x;simp only[pick];by_cases hx:e'>e
    ·rw[if_pos hx,if_pos hx];exact ih2 c' e'
    ·rw[if_neg hx,if_neg hx];exact ih2 c e
theorem rec_all:∀(N:Nat) (l:List Nat),l.length<=N->l.length<=1000->Rec p l:=by
 intro N;induction N with
 | zero =>
  intro l hl h1000 taken n hn hi ht;have:l=[]:=List.eq_nil_of_length_eq_zero (by omega)
  subst this;rw[C162];simp only[zK,zN,h268,h25,h3,Ad,zD,QG,zR,zI];cases n with
  | zero =>
   simp only[Bv,beq_self_eq_true,zD,c242 p h taken (by omega) ht,zJ,h3,zI]
   rfl
  | succ m =>
   have hb:(((m+1:Nat):Int) == (0:Int))=false:=by simp;omega
   rw[hb,zU,zB3];simp[j7,eR]
 | succ N ih =>
  intro l hl h1000 taken n hn hi ht;rw[C162];simp only[zK,zN,h268,h25,h3,Ad,zD,QG,zR,zI];cases n with
  | zero =>
   simp only[Bv,beq_self_eq_true,zD,c242 p h taken (by omega) ht,zJ,h3,zI]
   cases l <;> rfl
  | succ m =>
   have hb:(((m+1:Nat):Int) == (0:Int))=false:=by simp;omega
   have:=(l162_0 p h l taken m hn h1000 hi ht (λk hk=>ih _ (by simp;omega) (by simp;omega)) 0 (Av _)).1
   rw[hb,zU,Ab];rw[show((0:Nat):Int)=0 from rfl,As] at this
   exact this
theorem c162(l taken:List Nat)(n:Nat)(hll:l.length<=1000)(hn:taken.length+n<=64)(hl:∀i∈l,i<p.ps.length)(ht:∀i∈taken,i<p.ps.length) :
  zB 162 [.dp (eSe p),.sl 1 (l.map eN),.sl 1 (taken.map eN),eN n]=some (eR (j7 (enP p) (jP p) l taken n)):=rec_all p h l.length l (Al _) hll taken n hn hl ht
end
theorem l163(n:Nat)(hn:n<=1000):∀k,k<=n->0<k->zCt ((Aj k).map eN) n k=some (.val (.sl 1 ((Aj n).map eN))):=by
 apply down (P:=λk=>0<k->zCt ((Aj k).map eN) n k=some (.val (.sl 1 ((Aj n).map eN))))
 ·intro _;rw[zFB];simp only[zP,A6,if_false,Ab,BW,AK,Al,if_true,As];rw[AE (by simp)]
 ·intro k hk ih h0;have e1:(k:Int)<n:=by omega
  have e2:(2 * (k+1)+200) * 8<=281474976710656:=by omega
  rw[<-ih (by omega),zFB]
  simp only[zP,Ab,BW,e1,e2,if_true];rw[wr ((k:Int)+1) (by omega),AT,AM]
  rfl
theorem c163(p:Pn)(hr:zu p.r)(hl:p.ps.length<=1000):zB 163 [ePn p]=some (.val (.sl 1 ((Aj p.ps.length).map eN))):=by
 rw[C163];simp only[zK,zN,hPn p hr,Ad,zD,zQ,zS,zR,Ab];rw[L163_0a_eq];simp only[zP];by_cases h:p.ps.length=0
 ·simp[h]
 ·have:=l163 p.ps.length hl 1 (by omega) (by omega)
  rw[if_pos (by omega)]
  exact this
def QX(p:Pn)(n:Int):List Nat×Int×Int :=
 if zCe p n=0 then (match j7 (enP p) (jP p) (Aj p.ps.length) [] n.toNat with | none=>([],0,24) | some (c,e)=>(c,e,0)) else ([],0,zCe p n)
theorem c44[KnW][KnS](p:Pn)(hr:zu p.r)(n:Int):zB 44 [ePn p,eI n]=some (.val (.tup [.sl 1 ((QX p n).1.map eN),eI (QX p n).2.1,eI (QX p n).2.2])):=by
 rw[C44];simp only[zK,zN,hPn p hr,h3,Ad,zD,zQ,zS,zW,zh,zi,je,zZ,zI,zR,Ab,c160 p hr,zJ,h46,c149,Qs];have hbe:zT [zJi p,zf n 0 p.ps.length]=zCe p n:=rfl;rw[hbe];unfold QX;by_cases h0:zCe p n=0
 ·obtain⟨h1,h2⟩:=jE h0;have h2:=jW.1 (jE h2).1;have hp:=zH3 h1 hr;obtain⟨k,rfl⟩:∃k:Nat,n=k:=⟨n.toNat,by omega⟩
  have hl8:=hp.l;have hc:=c162 p hp (Aj p.ps.length) [] k (by simp;omega) (by simp;omega) (λi hi=>by simpa using hi) (λi hi=>by simp at hi)
  simp only[Bm] at hc;rw[if_pos h0];simp only[bne0 h0,zU,KnS.search p hr hp.l hp.v.p hp.least.1 hp.least.2,zJ,h268,zD,QG,c163 p hr (by omega),h25,zR,hc,Ai]
  cases j7 (enP p) (jP p) (Aj p.ps.length) [] k with
  | none=>simp[eR]
  | some x=>simp[eR]
 ·rw[if_neg h0];simp[bne1 h0]
end Go.Am
namespace Go.Am
open Go.Proofs
open Go Go.RowKit
theorem enters{f:FuncId}{fn:Func}(h:PP.funcs[f]? = some fn)(h1:(fn.name == "runtime.NumGoroutine")=false)(h2:fn.body.isNone=false):Enters PP f:=⟨fn,h,h1,h2⟩
def T243(ds:List DV)(r:CR):Prop:=∃l:List Int,l.length<=100000/\ds=[.sl 1 (l.map eI)]/\r=qy l
def T210(ds:List DV)(r:CR):Prop:=∃n:Int,-9223372036854775808<=n/\n<=9223372036854775807/\ds=[eI n]/\r=.val (.str ⟨(AZ n).toArray⟩)
def T208(ds:List DV)(r:CR):Prop:=∃(l:List ByteArray) (s:ByteArray),l.length<=1000/\(∀x∈l,x.size<=1000)/\s.size<=1000/\ds=[.sl 1 (l.map .str),.str s] /\
 r=.val (.str ⟨(AY (l.map (·.data.toList)) s.data.toList).toArray⟩)
theorem at243(ds:List DV)(r:CR):T243 ds r->qM PP EE 243 ds r:=by
 rintro⟨l,hl,rfl,rfl⟩;refine⟨enters Tryz.func243 (by kernel_rfl) (by kernel_rfl),λS w vals hg hlt hlen hv=>?_⟩
 obtain⟨v,rfl⟩:∃v,vals=[v]:=BK.1 hlen;have h0:=hv 0 (by simp) (by simp)
 simp only[AP] at h0;obtain⟨a,c,e,hc,hm⟩:=RD.sl1 (g:=Ak .i64) (λx cs h=>RD.int1 h) (RV.rd rfl h0).1
 obtain rfl:=zCT h0 rfl rfl e;by_cases h:l=[]
 ·subst h;rw[show qy []=.val .nl from rfl]
  cases a with
  | none=>exact(Tryz.slices_Clone_int_nil 0 c w).mono λe w' ⟨h1,h2⟩=>⟨_,h1,by subst h2;exact Y0 hlt (AH _ _) ⟨RD.nl none,rfl⟩⟩
  | some ad=>exact(clone_zero Tryz.laysNm215 ad c w).mono λe w' ⟨ad',h1,h2⟩=>⟨_,h1,Y0 hlt h2 ⟨RD.nl (some ad'),rfl⟩⟩
 ·rw[show qy l=.fresh 1 (l.map eI) from if_neg h]
  have h0:0<l.length:=AU.2 h;obtain⟨ad,rfl,hsp,hS,hcell⟩:=hm h0;have ead:ad=⟨ad.block,ad.off,none⟩:=by rw[<-hsp]
  rw[ead];refine(Tryz.slices_Clone_int ad.block ad.off l.length c l w (Al _) (by omega) (λj hj=>?_)).mono λe w' ⟨v',h1,hown,hne,hB⟩=>⟨v',h1,?_⟩
  ·have:=hcell j l[j] (Ah hj);rw[jr hsp] at this;rw[this,An,Ah hj];rfl
  ·rcases hown.2 with ⟨h2,_⟩ | ⟨g,cap,cur,rfl,hg1,hg2,hg3,hg4,hg5,hg6⟩
   ·exact absurd h2 hne
   ·refine⟨S,hB,λ_ h=>h,λ_ h=>.inl h,λb hb=>BU (hlt b hb) hB.size,g,hg1,λhx=>absurd (hlt g hx) (by omega),λφ=>?_,λφ s hs=>?_⟩
    ·refine⟨cur,3,(l.map λm=>[Ak .i64 m]),hg2,by simp,λi h h'=>?_,λc hc=>?_,?_⟩
     ·simp only[At];exact .int _ _
     ·obtain⟨m,_,rfl⟩:=Aq.1 hc;rfl
     ·rw[flat1 (Ak .i64),BJ,Ab];rw[AE (Al _),BR] at hg6;exact hg6.symm
    ·refine⟨?_,rfl⟩;have:=RA.own (L:=EE.L) (S:=S) (φ:=φ) (w:=w') s 0 l.length 1 g cap hs hg3 ⟨cur,3,hg2,by omega⟩
     simpa[vcs,Value.cells] using this
theorem at210(ds:List DV)(r:CR):T210 ds r->qM PP EE 210 ds r:=by
 rintro⟨n,hn1,hn2,rfl,rfl⟩;refine⟨enters Tryz.func210 (by kernel_rfl) (by kernel_rfl),λS w vals hg hlt hlen hv=>?_⟩
 obtain⟨v,rfl⟩:∃v,vals=[v]:=BK.1 hlen;have h0:=hv 0 (by simp) (by simp)
 simp only[AP] at h0;have e:=RD.int1 (RV.rd rfl h0).1;rw[jB (RV.rd rfl h0).2] at e;obtain rfl:v=.int .i64 n:=by simpa using e
 obtain⟨hS,t,fr,hw⟩:=hg.tab 5 (Cd.map λz=>Ak .u64 z).toArray (by kernel_rfl)
 have hT:Lib.TabIs PP w "internal/strconv.uint64pow10" .u64 Cd:=by
  unfold Lib.TabIs World.var?;rw[show PP.globalNamed "internal/strconv.uint64pow10"=some 5 by kernel_rfl]
  simp only[Option.bind_some,hw]
 exact(Tryz.strconv_Itoa n hn1 hn2 w hT).mono λe w' ⟨h1,k,os,h2⟩=>⟨_,h1,Y0 hlt (h2 ▸ Lib.below_grow _ _ (Al _) k os) ⟨RD.str _,rfl⟩⟩
theorem zJb(s:List UInt8)(hs:s.length<=1000):∀l:List (List UInt8),(∀x∈l,x.length<=1000)->(AY l s).length<=l.length * 2000
 | [],_=>by simp[AY]
 | [x],h=>by have:=h x (by simp);simp[AY];omega
 | x :: y :: l,h=>by
  have h1:=h x (by simp)
  have h2:=zJb s hs (y :: l) λz hz=>h z (by simp[hz])
  rw[show AY (x :: y :: l) s=x++s++AY (y :: l) s by first | rfl | simp[AY]]
  simp only[Bk,AS] at h2 ⊢;omega
theorem at208(ds:List DV)(r:CR):T208 ds r->qM PP EE 208 ds r:=by
 rintro⟨l,s,hl,hx,hs,rfl,rfl⟩;refine⟨enters Tryz.func208 (by kernel_rfl) (by kernel_rfl),λS w vals hg hlt hlen hv=>?_⟩
 obtain⟨v,v2,rfl⟩:∃v v2,vals=[v,v2]:=by
  match vals,hlen with
  | [a,b],_=>exact⟨a,b,rfl⟩
 have h0:=hv 0 (by simp) (by simp)
 have h1:=hv 1 (by simp) (by simp)
 simp only[AP,BL] at h0 h1;have e:=RD.str1 (RV.rd rfl h1).1;rw[jB (RV.rd rfl h1).2] at e;obtain rfl:v2=.string s:=by simpa using e
 obtain⟨a,c,e,hc,hm⟩:=RD.sl1 (g:=Value.string) (λx cs h=>RD.str1 h) (RV.rd rfl h0).1
 obtain rfl:=zCT h0 rfl rfl e;by_cases h:l=[]
 ·subst h;exact(Tryz.strings_Join_none a c s w).mono λe w' ⟨h1,h2⟩=>⟨_,h1,by subst h2;exact Y0 hlt (AH _ _) ⟨RD.str _,rfl⟩⟩
 ·have h0:0<l.length:=AU.2 h;obtain⟨ad,rfl,hsp,hS,hcell⟩:=hm h0;have ead:ad=⟨ad.block,ad.off,none⟩:=by rw[<-hsp]
  rw[ead];have hln:=zJb s.data.toList (by simpa using hs) (l.map (·.data.toList)) (λx hx'=>by
   obtain⟨y,hy,rfl⟩:=Aq.1 hx';have:=hx y hy;simpa using this)
  rw[Ab] at hln;exact(Tryz.strings_Join ad.block ad.off c l s w (λj x hx=>by have:=hcell j x hx;rwa [jr hsp] at this) (hlt _ hS) (by omega) hc (by omega)).mono
   λe w' ⟨h1,h2⟩=>⟨_,h1,Y0 hlt h2 ⟨RD.str _,rfl⟩⟩
end Go.Am
namespace Go.Am
open Go.Proofs
open Go
variable[OO]
theorem C154:zB 154 [] =
 some (.val (.agg 4 [(.agg 0 [(.str (bs [115])),(eI 1),(.sl 3 [(.agg 9 [(.str (bs [97])),(.agg 1 [(eI 0),(eI 2)])]),(.agg 9 [(.str (bs [98])),(.agg 1 [(eI 0),(eI 1)])]),(.agg 9 [(.str (bs [99])),(.agg 1 [(eI 1),(eI 0)])])])]),(.agg 0 [(.str (bs [115,117,109])),(.sl 1 [(eI 128),(eI 64)]),(.sl 1 [(eI 0),(eI 1)])]),(.agg 1 [(.sl 1 [(eI 0),(eI 0),(eI 100),(eI 300),(eI 300)]),(eI 5)]),(.agg 3 [(.agg 2 [(eI 0),(eI 0),(eI 0),(eI 0),(eI 2),(eI 0),(eI 0),(eI 0),(eI 0),(eI 0),(eI 0),(eI 0),(eI 0),(eI 0),(eI 0),(eI 0),(eI 0),(eI 0),(eI 0),(eI 0),(eI 0),(eI 0),(eI 0),(eI 0),(eI 0),(eI 0),(eI 0),(eI 0),(eI 0),(eI 0),(eI 0),(eI 0),(eI 0),(eI 0),(eI 0),(eI 0),(eI 0),(eI 0),(eI 0),(eI 0),(eI 0),(eI 0),(eI 0),(eI 0),(eI 0),(eI 0),(eI 0),(eI 0),(eI 0),(eI 0),(eI 0)]),(.agg 2 (Af (α:=DV) 51 (eI 0))),(.agg 2 (Af (α:=DV) 51 (eI 0))),(.agg 2 (Af (α:=DV) 51 (eI 0))),(.agg 2 (Af (α:=DV) 51 (eI 0))),(.agg 2 (Af (α:=DV) 51 (eI 0))),(.agg 2 (Af (α:=DV) 51 (eI 0))),(.agg 2 (Af (α:=DV) 51 (eI 0)))])])) :=
 (zM (f:=154) (by kernel_rfl) (by kernel_rfl) (by kernel_rfl) []).trans (by kernel_rfl)
theorem C155:zB 155 [] =
 zH (zB 154 [])
 (λr0=>ifO (zF EE 6 62 r0)
 (some (.val (.agg 6 [(.sl 2 [(.agg 1 [(eI 0),(eI 2)]),(.agg 1 [(eI 0),(eI 1)]),(.agg 1 [(eI 1),(eI 1)])]),(eI 1),(.agg 0 [(.str (zX (nth (flds (nth (flds r0) 1)) 0))),(.sl 1 (elems (nth (flds (nth (flds r0) 1)) 1))),(.sl 1 (elems (nth (flds (nth (flds r0) 1)) 2)))]),(.agg 1 [(.sl 1 (elems (nth (flds (nth (flds r0) 2)) 0))),(eI (zC (nth (flds (nth (flds r0) 2)) 1)))]),(.agg 3 (flds (nth (flds r0) 3)))])))
 (none))
 (λ_ _=>none) :=
 (zM (f:=155) (by kernel_rfl) (by kernel_rfl) (by kernel_rfl) []).trans (by kernel_rfl)
end Go.Am
namespace Go.Am
open Go.Proofs
open Go
variable[OO]
theorem C33:zB 33 [] =
 zH (zB 154 [])
 (λr0=>ifO (zF EE 6 62 r0)
 (zH (zB 64 [(.agg 0 [(.str (zX (nth (flds (nth (flds r0) 0)) 0))),(eI (zC (nth (flds (nth (flds r0) 0)) 1))),(.sl 3 (elems (nth (flds (nth (flds r0) 0)) 2)))]),(eI 0),(eI 0),(eI 2)])
 (λr1=>ifO ((DV.isTup r1) && (zV (zF EE 6) [3,3,46] (tups r1)))
 (zH (zB 64 [(.agg 0 [(.str (zX (nth (flds (nth (flds r0) 0)) 0))),(eI (zC (nth (flds (nth (flds r0) 0)) 1))),(.sl 3 (elems (nth (flds (nth (flds r0) 0)) 2)))]),(eI 1),(eI 0),(eI 2)])
 (λr2=>ifO ((DV.isTup r2) && (zV (zF EE 6) [3,3,46] (tups r2)))
 (zH (zB 77 [(.agg 0 [(.str (zX (nth (flds (nth (flds r0) 0)) 0))),(eI (zC (nth (flds (nth (flds r0) 0)) 1))),(.sl 3 (elems (nth (flds (nth (flds r0) 0)) 2)))]),(.agg 0 [(.str (zX (nth (flds (nth (flds r0) 1)) 0))),(.sl 1 (elems (nth (flds (nth (flds r0) 1)) 1))),(.sl 1 (elems (nth (flds (nth (flds r0) 1)) 2)))]),(eI 0)])
 (λr3=>ifO ((DV.isTup r3) && (zV (zF EE 6) [25,46] (tups r3)))
 (zH (zB 68 [(.agg 0 [(.str (zX (nth (flds (nth (flds r0) 0)) 0))),(eI (zC (nth (flds (nth (flds r0) 0)) 1))),(.sl 3 (elems (nth (flds (nth (flds r0) 0)) 2)))]),(eI 0)])
 (λr4=>ifO ((DV.isTup r4) && (zV (zF EE 6) [25,46] (tups r4)))
 (zH (zB 78 [(.agg 0 [(.str (zX (nth (flds (nth (flds r0) 0)) 0))),(eI (zC (nth (flds (nth (flds r0) 0)) 1))),(.sl 3 (elems (nth (flds (nth (flds r0) 0)) 2)))]),(.agg 0 [(.str (zX (nth (flds (nth (flds r0) 1)) 0))),(.sl 1 (elems (nth (flds (nth (flds r0) 1)) 1))),(.sl 1 (elems (nth (flds (nth (flds r0) 1)) 2)))]),(eI 0),(eI 4)])
 (λr5=>ifO ((DV.isTup r5) && (zV (zF EE 6) [25,46] (tups r5)))
 (zH (zB 32 [(.agg 4 [(.agg 0 [(.str (zX (nth (flds (nth (flds r0) 0)) 0))),(eI (zC (nth (flds (nth (flds r0) 0)) 1))),(.sl 3 (elems (nth (flds (nth (flds r0) 0)) 2)))]),(.agg 0 [(.str (zX (nth (flds (nth (flds r0) 1)) 0))),(.sl 1 (elems (nth (flds (nth (flds r0) 1)) 1))),(.sl 1 (elems (nth (flds (nth (flds r0) 1)) 2)))]),(.agg 1 [(.sl 1 (elems (nth (flds (nth (flds r0) 2)) 0))),(eI (zC (nth (flds (nth (flds r0) 2)) 1)))]),(.agg 3 (flds (nth (flds r0) 3)))]),(eI 0),(eI 4)])
 (λr6=>ifO ((DV.isTup r6) && (zV (zF EE 6) [25,46] (tups r6)))
 (zH (zB 32 [(.agg 4 [(.agg 0 [(.str (zX (nth (flds (nth (flds r0) 0)) 0))),(eI (zC (nth (flds (nth (flds r0) 0)) 1))),(.sl 3 (elems (nth (flds (nth (flds r0) 0)) 2)))]),(.agg 0 [(.str (zX (nth (flds (nth (flds r0) 1)) 0))),(.sl 1 (elems (nth (flds (nth (flds r0) 1)) 1))),(.sl 1 (elems (nth (flds (nth (flds r0) 1)) 2)))]),(.agg 1 [(.sl 1 (elems (nth (flds (nth (flds r0) 2)) 0))),(eI (zC (nth (flds (nth (flds r0) 2)) 1)))]),(.agg 3 (flds (nth (flds r0) 3)))]),(eI 0),(eI 5)])
 (λr7=>ifO ((DV.isTup r7) && (zV (zF EE 6) [25,46] (tups r7)))
 (zH (zB 106 [(.agg 1 [(.sl 1 (elems (nth (flds (nth (flds r0) 2)) 0))),(eI (zC (nth (flds (nth (flds r0) 2)) 1)))]),(eI 640)])
 (λr8=>ifO ((DV.isTup r8) && (zV (zF EE 6) [3,46] (tups r8)))
 (ifO (bne (Ae .i64 ((Ae .i64 ((Ae .i64 ((Ae .i64 ((Ae .i64 ((Ae .i64 ((Ae .i64 ((zC (nth (tups r1) 2))+(zC (nth (tups r2) 2))))+(zC (nth (tups r3) 1))))+(zC (nth (tups r4) 1))))+(zC (nth (tups r5) 1))))+(zC (nth (tups r6) 1))))+(zC (nth (tups r7) 1))))+(zC (nth (tups r8) 1)))) (0:Int))
 (some (.val (.bool false)))
 (ifO (bne (zC (nth (tups r1) 0)) (2:Int))
 (some (.val (.bool false)))
 (ifO (bne (zC (nth (tups r1) 1)) (1:Int))
 (some (.val (.bool false)))
 (ifO (bne (zC (nth (tups r2) 0)) (0:Int))
 (some (.val (.bool false)))
 (ifO (bne (zC (nth (tups r2) 1)) (3:Int))
 (some (.val (.bool false)))
 (zH (zB 126 [(.sl 1 (elems (nth (tups r3) 0))),(.sl 1 [(eI 0),(eI 128),(eI 64)])])
 (λr9=>ifO (zF EE 6 4 r9)
 (ifO (!(jm r9))
 (some (.val (.bool false)))
 (zH (zB 126 [(.sl 1 (elems (nth (tups r4) 0))),(.sl 1 [(eI 0),(eI 1),(eI 2)])])
 (λr10=>ifO (zF EE 6 4 r10)
 (ifO (!(jm r10))
 (some (.val (.bool false)))
 (zH (zB 126 [(.sl 1 (elems (nth (tups r5) 0))),(.sl 1 [(eI 1024),(eI 512),(eI 768)])])
 (λr11=>ifO (zF EE 6 4 r11)
 (ifO (!(jm r11))
 (some (.val (.bool false)))
 (zH (zB 126 [(.sl 1 (elems (nth (tups r6) 0))),(.sl 1 [(eI 76800),(eI 25600),(eI 76800)])])
 (λr12=>ifO (zF EE 6 4 r12)
 (ifO (!(jm r12))
 (some (.val (.bool false)))
 (zH (zB 126 [(.sl 1 (elems (nth (tups r7) 0))),(.sl 1 [(eI 0),(eI 0),(eI 0)])])
 (λr13=>ifO (zF EE 6 4 r13)
 (ifO (!(jm r13))
 (some (.val (.bool false)))
 (ifO (bne (zC (nth (tups r8) 0)) (51200:Int))
 (some (.val (.bool false)))
 (zH (zB 30 [(.agg 4 [(.agg 0 [(.str (zX (nth (flds (nth (flds r0) 0)) 0))),(eI (zC (nth (flds (nth (flds r0) 0)) 1))),(.sl 3 (elems (nth (flds (nth (flds r0) 0)) 2)))]),(.agg 0 [(.str (zX (nth (flds (nth (flds r0) 1)) 0))),(.sl 1 (elems (nth (flds (nth (flds r0) 1)) 1))),(.sl 1 (elems (nth (flds (nth (flds r0) 1)) 2)))]),(.agg 1 [(.sl 1 (elems (nth (flds (nth (flds r0) 2)) 0))),(eI (zC (nth (flds (nth (flds r0) 2)) 1)))]),(.agg 3 (flds (nth (flds r0) 3)))])])
 (λr14=>ifO ((DV.isTup r14) && (zV (zF EE 6) [3,46] (tups r14)))
 (zH (zB 84 [(.agg 4 [(.agg 0 [(.str (zX (nth (flds (nth (flds r0) 0)) 0))),(eI (zC (nth (flds (nth (flds r0) 0)) 1))),(.sl 3 (elems (nth (flds (nth (flds r0) 0)) 2)))]),(.agg 0 [(.str (zX (nth (flds (nth (flds r0) 1)) 0))),(.sl 1 (elems (nth (flds (nth (flds r0) 1)) 1))),(.sl 1 (elems (nth (flds (nth (flds r0) 1)) 2)))]),(.agg 1 [(.sl 1 (elems (nth (flds (nth (flds r0) 2)) 0))),(eI (zC (nth (flds (nth (flds r0) 2)) 1)))]),(.agg 3 (flds (nth (flds r0) 3)))])])
 (λr15=>ifO ((DV.isTup r15) && (zV (zF EE 6) [3,46] (tups r15)))
 (zH (zB 85 [(.agg 4 [(.agg 0 [(.str (zX (nth (flds (nth (flds r0) 0)) 0))),(eI (zC (nth (flds (nth (flds r0) 0)) 1))),(.sl 3 (elems (nth (flds (nth (flds r0) 0)) 2)))]),(.agg 0 [(.str (zX (nth (flds (nth (flds r0) 1)) 0))),(.sl 1 (elems (nth (flds (nth (flds r0) 1)) 1))),(.sl 1 (elems (nth (flds (nth (flds r0) 1)) 2)))]),(.agg 1 [(.sl 1 (elems (nth (flds (nth (flds r0) 2)) 0))),(eI (zC (nth (flds (nth (flds r0) 2)) 1)))]),(.agg 3 (flds (nth (flds r0) 3)))])])
 (λr16=>ifO ((DV.isTup r16) && (zV (zF EE 6) [160,46] (tups r16)))
 (zH (zB 155 [])
 (λr17=>ifO (zF EE 6 88 r17)
 (zH (zB 44 [(.agg 6 [(.sl 2 (elems (nth (flds r17) 0))),(eI (zC (nth (flds r17) 1))),(.agg 0 [(.str (zX (nth (flds (nth (flds r17) 2)) 0))),(.sl 1 (elems (nth (flds (nth (flds r17) 2)) 1))),(.sl 1 (elems (nth (flds (nth (flds r17) 2)) 2)))]),(.agg 1 [(.sl 1 (elems (nth (flds (nth (flds r17) 3)) 0))),(eI (zC (nth (flds (nth (flds r17) 3)) 1)))]),(.agg 3 (flds (nth (flds r17) 4)))]),(eI 2)])
 (λr18=>ifO ((DV.isTup r18) && (zV (zF EE 6) [25,3,46] (tups r18)))
 (zH (zB 155 [])
 (λr19=>ifO (zF EE 6 88 r19)
 (zH (zB 50 [(.agg 6 [(.sl 2 (elems (nth (flds r19) 0))),(eI (zC (nth (flds r19) 1))),(.agg 0 [(.str (zX (nth (flds (nth (flds r19) 2)) 0))),(.sl 1 (elems (nth (flds (nth (flds r19) 2)) 1))),(.sl 1 (elems (nth (flds (nth (flds r19) 2)) 2)))]),(.agg 1 [(.sl 1 (elems (nth (flds (nth (flds r19) 3)) 0))),(eI (zC (nth (flds (nth (flds r19) 3)) 1)))]),(.agg 3 (flds (nth (flds r19) 4)))]),(.sl 1 [(.sl 1 [(eI 0),(eI 1)]),(.sl 1 [(eI 2)])]),(eI 2)])
 (λr20=>ifO ((DV.isTup r20) && (zV (zF EE 6) [3,46] (tups r20)))
 (zH (zB 108 [(.agg 1 [(.sl 1 (elems (nth (flds (nth (flds r0) 2)) 0))),(eI (zC (nth (flds (nth (flds r0) 2)) 1)))])])
 (λr21=>ifO ((DV.isTup r21) && (zV (zF EE 6) [9,46] (tups r21)))
 (ifO ((Ae .i64 ((Ae .i64 ((Ae .i64 ((Ae .i64 ((Ae .i64 ((zC (nth (tups r14) 1))+(zC (nth (tups r15) 1))))+(zC (nth (tups r16) 1))))+(zC (nth (tups r18) 2))))+(zC (nth (tups r20) 1))))+(zC (nth (tups r21) 1)))) == (0:Int))
 (ifO ((zC (nth (tups r14) 0)) == (358400:Int))
 (ifO ((zC (nth (tups r15) 0)) == (460800:Int))
 (ifO (ifO.match_1 (λy707=>Bool) false (λy298=>(!(AL (YT EE 160 (.agg 1 [(eI (zC (nth (flds (nth (tups r16) 0)) 0))),(eI (zC (nth (flds (nth (tups r16) 0)) 1)))]) (.agg 1 [(eI 2),(eI 9)])) false))) (λy882=>(AL (YT EE 160 (.agg 1 [(eI (zC (nth (flds (nth (tups r16) 0)) 0))),(eI (zC (nth (flds (nth (tups r16) 0)) 1)))]) (.agg 1 [(eI 2),(eI 9)])) false)))
 (zH (zB 126 [(.sl 1 (elems (nth (tups r18) 0))),(.sl 1 [(eI 0),(eI 2)])])
 (λr22=>ifO (zF EE 6 4 r22)
 (ifO (jm r22)
 (ifO ((zC (nth (tups r18) 1)) == (307200:Int))
 (ifO ((zC (nth (tups r20) 0)) == (307200:Int))
 (some (.val (.bool ((BN (zX (nth (tups r21) 0))) == (BN (bs [53,32,48,32,48,32,49,48,48,32,51,48,48,32,51,48,48]))))))
 (some (.val (.bool false))))
 (some (.val (.bool false))))
 (some (.val (.bool false))))
 (none))
 (λ_ _=>none))
 (some (.val (.bool false))))
 (some (.val (.bool false))))
 (some (.val (.bool false))))
 (some (.val (.bool false))))
 (none))
 (λ_ _=>none))
 (none))
 (λ_ _=>none))
 (none))
 (λ_ _=>none))
 (none))
 (λ_ _=>none))
 (none))
 (λ_ _=>none))
 (none))
 (λ_ _=>none))
 (none))
 (λ_ _=>none))
 (none))
 (λ_ _=>none))))
 (none))
 (λ_ _=>none)))
 (none))
 (λ_ _=>none)))
 (none))
 (λ_ _=>none)))
 (none))
 (λ_ _=>none)))
 (none))
 (λ_ _=>none)))))))
 (none))
 (λ_ _=>none))
 (none))
 (λ_ _=>none))
 (none))
 (λ_ _=>none))
 (none))
 (λ_ _=>none))
 (none))
 (λ_ _=>none))
 (none))
 (λ_ _=>none))
 (none))
 (λ_ _=>none))
 (none))
 (λ_ _=>none))
 (none))
 (λ_ _=>none) :=
 (zM (f:=33) (by kernel_rfl) (by kernel_rfl) (by kernel_rfl) []).trans (by kernel_rfl)
end Go.Am
namespace Go.Am
open Go.Proofs
open Go
class KnO[OO]:Prop where
 order:∀(s:Si) (n:Int),zB 68 [eSi s,eI n]=some (.val (.tup [.sl 1 ((YI s n).1.map eN),eI (YI s n).2]))
variable[OO]
def lossP(lo fr:Int):Int×Int:=(Bh lo (Bz lo.toNat fr.toNat),Bh fr (Bz lo.toNat fr.toNat))
theorem l85(fr lo:Int)(h1:0<=fr/\fr<=1000000000000000000)(h2:0<=lo/\lo<=1000000000000000000):∀(b a:Nat),0<a\/0<b ->
  zIX fr lo a b=some (.val (.tup [.agg 1 [eI (Bh lo (Bz a b)),eI (Bh fr (Bz a b))],eI 0])):=by
 intro b;induction b using Nat.strongRecOn with
 | _ b ih =>
  intro a h0;rw[L85_0a_eq];by_cases hb:b=0
  ·subst hb;have ha:0<a:=by omega
   have hb0:(bne (((0:Nat):Int)) 0)=false:=rfl;have hbeq:((a:Int) == 0)=false:=by simp;omega
   have hw:∀x:Int,0<=x->x<=1000000000000000000->Ay.wrap (Bh x (a:Int))=Bh x (a:Int):=by
    intro x hx hx';have e:Bh x (a:Int)=x / (a:Int):=Int.tdiv_eq_ediv_of_nonneg hx;have q1:=Int.ediv_nonneg hx (show(0:Int)<=(a:Int) by omega)
    have q2:=Int.ediv_le_self (a:Int) hx;rw[e];exact wr _ (by omega)
   rw[hb0];simp only[zU,hbeq,B5,zD,Nat.gcd_zero_right,hw lo h2.1 h2.2,hw fr h1.1 h1.2]
  ·have hb0:(bne ((b:Nat):Int) 0)=true:=bne1 (by omega)
   have hbeq:((b:Int) == 0)=false:=by simp;omega
   have e:Int.tmod (a:Int) (b:Int)=((a % b:Nat):Int):=by rw[Int.tmod_eq_emod_of_nonneg (by omega)];simp
   have hlt:=Nat.mod_lt a (show 0<b by omega)
   rw[hb0];simp only[zD,hbeq,B5,e];have hg:Bz b (a % b)=Bz a b:=by rw[Cc a b,Nat.gcd_rec b a,Cc]
   rw[ih (a % b) hlt b (by omega),hg]
def zIL(f:Fm):Int:=zT [YO f,if (Yj f == 0)=true then 6 else 0]
theorem energy_b{f:Fm}(h:YO f=0)(hr:zu f.r):0<=enF f 0/\enF f 0<=Yj f/\Yj f<=100000000000000000:=by obtain⟨hv,hs⟩:=Yk h hr;obtain⟨_,_,h3,_⟩:=zF3 h;have hi:=(zGW f.c.p (QY h3).2).1;have b1:=Yl hv.c f.w hv.l 0 hr hv.q;have b2:=Yl hv.c wkFree hv.l 0 hr hv.q;have b3:=zEB hv.w hv.c hi hr hv.q (zo f.s);unfold enF Yj;rw[if_pos h,if_pos h];omega
theorem c85[KnW](f:Fm)(h:zu f.r):zB 85 [eFm f]=some (.val (.tup [.agg 1 [eI (if zIL f=0 then (lossP (Yj f - enF f 0) (Yj f)).1 else 0),eI (if zIL f=0 then (lossP (Yj f - enF f 0) (Yj f)).2 else 0)],eI (zIL f)])):=by
 rw[C85];simp only[zK,zN,hFm f h,Ad,zD,zQ,zS,zW,zh,zi,zZ,zI,zR,c84 f h,zJ,z1,z8,h3,h46,c169,Qs];by_cases h0:zIL f=0
 ·obtain⟨k1,k2⟩:=jE h0;obtain⟨hv,hs⟩:=Yk k1 h;have hl:=hv.l;rw[jA] at hl;have hen:jl f.w f.c f.r (zo f.s) 0=enF f 0:=by unfold enF;rw[if_pos k1]
  have hb:=energy_b k1 h;have hz:¬Yj f=0:=by intro hz;simp[hz,zT] at k2
  have key:=l85 (Yj f) (Yj f - enF f 0) (by omega) (by omega) (Yj f).toNat (Yj f - enF f 0).toNat (by omega)
  rw[show(((Yj f).toNat:Nat):Int)=Yj f by omega,show(((Yj f - enF f 0).toNat:Nat):Int)=Yj f - enF f 0 by omega] at key
  refine(congrArg (λb=>ifO b _ _) (show bne (zIL f) 0=false from bne0 h0)).trans ?_
  simp only[zU,c144 f h,zJ,hMd _ _ _ h,zD,c146 f.s (by omega),h81,zR,zQ,zS,zW,zh,zZ,zI,c145 hv 0 (by omega),h3,hen,wr (Yj f - enF f 0) (by omega),key,if_pos h0,lossP]
  rw[h0]
 ·refine(congrArg (λb=>ifO b _ _) (show bne (zIL f) 0=true from bne1 h0)).trans ?_
  simp only[zD,if_neg h0];rfl
def in64'(x:Int):Prop:=-9223372036854775808<=x/\x<=9223372036854775807
def itB(n:Int):ByteArray:=⟨(AZ n).toArray⟩
theorem itB_size(n:Int)(h0:-9223372036854775808<=n)(h1:n<=9223372036854775807):(itB n).size<=21:=Lib.itoa_length_le n h0 h1
def textB(c:Cu):ByteArray:=⟨(AY ((c.cut :: c.p).map AZ) [32]).toArray⟩
section
variable[KnS]
theorem l209b(l:List Int)(hl:l.length<=1000)(hb:∀x∈l,in64' x):∀k,k<=l.length->zE3 210 [] [] ((l.take k).map λn=>.str (itB n)) (l.map eI) l.length k=some (.val (.sl 1 ((l.map itB).map .str))):=by
 apply down
 ·rw[zE2];simp;exact(AE (by simp)).trans (by simp)
 ·intro k hk ih;have e1:(k:Int)<l.length:=by omega
  have hx:=KnS.itoa l[k] (hb _ (Ag hk)).1 (hb _ (Ag hk)).2;have hx':zB 210 (zy EE 210 [eI l[k]])=some (.val (.str (itB l[k]))):=(congrArg (zB 210) (show zy EE 210 [eI l[k]]=[eI l[k]] by kernel_rfl)).trans hx
  have hm:min k l.length=k:=by omega
  have e2:(2 * (k+1)+200) * 16<=281474976710656:=by omega
  have e0:(0:Int)<=(k:Int):=by omega
  rw[<-ih,zE2];simp only[zP];simp only[Ab,Bt,hm,e1,e0,e2,and_self,if_true,Ai,zO _ l k hk,h3,zD,zI,AC,BZ,hx',zJ,h9,zZ];rw[wr ((k:Int)+1) (by omega),AO hk,AM]
  rfl
theorem c209(l:List Int)(hl:l.length<=1000)(hb:∀x∈l,in64' x):zB 209 [.sl 1 (l.map eI),.fn 210 [] []]=some (.val (.sl 1 ((l.map itB).map .str))):=by
 rw[C209];simp only[zK,zN,h25,h280,Ad,zD,zR,Yb,QA,q0,Ab];rw[L209_0a_eq];simp only[zP];by_cases h:l=[]
 ·simp[h]
 ·have h0:0<l.length:=AU.2 h;have h1:=l209b l hl hb 1 (by omega)
  have hx:=KnS.itoa l[0] (hb _ (Ag h0)).1 (hb _ (Ag h0)).2;have hx':zB 210 (zy EE 210 [eI l[0]])=some (.val (.str (itB l[0]))):=(congrArg (zB 210) (show zy EE 210 [eI l[0]]=[eI l[0]] by kernel_rfl)).trans hx
  have e1:(0:Int)<l.length:=by omega
  rw[tk1 l h0] at h1;simp only[Ab,e1,Ci,and_self,if_true,zO _ l 0 h0,h3,zD,zI,AC,BZ,hx',zJ,h9,zZ];simpa using h1
theorem c108(c:Cu):zB 108 [eCu c]=some (.val (.tup [.str (if YK c=0 then textB c else bs []),eI (YK c)])):=by
 rw[C108];simp only[zK,zN,h60,Ad,zD,zQ,zS,zW,zR,zI,c114,zJ,h46];by_cases h:YK c=0
 ·obtain⟨⟨hl,hl',hp,hc⟩,_⟩:=QY h;have hb:∀x∈c.cut :: c.p,in64' x:=by
   intro x hx;rcases A3.1 hx with rfl | hx
   ·exact⟨by omega,by omega⟩
   ·have:=hp x hx;exact⟨by omega,by omega⟩
  have h209:=c209 (c.cut :: c.p) (by simp;omega) hb
  have hj:=KnS.join ((c.cut :: c.p).map itB) (bs [32]) (by simp;omega) (λx hx=>by
   obtain⟨n,hn,rfl⟩:=Aq.1 hx;have:=itB_size n (hb n hn).1 (hb n hn).2;omega) (by decide)
  have htk:AA ([DV.int .i64 c.cut]++c.p.map eI).length ([DV.int .i64 c.cut]++c.p.map eI)=(c.cut :: c.p).map eI:=by rw[AJ];rfl
  have e1:(2 * (1+c.p.length)+200) * 8<=281474976710656:=by omega
  simp only[bne0 h,zU,Ab,e1,decide_true,zD,AK,Al,As,htk,h209,zJ,h173,zR,hj,h9,zZ,if_pos h];rw[h];have e:(BA (λx=>x.data.toList) (BA itB (c.cut :: c.p)))=(c.cut :: c.p).map AZ:=by rw[Bn];exact Ar λn _=>by simp[itB]
  have e':(bs [32]).data.toList=[32]:=by decide
  rw[e,e'];rfl
 ·simp only[bne1 h,zD,if_neg h]
end
end Go.Am
namespace Go.Am
open Go.Proofs
open Go
def fS:Fm:=⟨⟨bs [115],1,[⟨bs [97],⟨0,2⟩⟩,⟨bs [98],⟨0,1⟩⟩,⟨bs [99],⟨1,0⟩⟩]⟩,⟨rM,[128,64],[0,1]⟩,⟨[0,0,100,300,300],5⟩,(z51.set 4 2) :: Af 7 z51⟩
def pS:Pn:=⟨[⟨0,2⟩,⟨0,1⟩,⟨1,1⟩],1,fS.w,fS.c,fS.r⟩
def gS:List (List Int):=[[0,1],[2]]
theorem okS:zu fS.r:=by
 refine⟨rfl,λr hr=>?_⟩
 rcases A3.1 hr with rfl | hr
 ·rfl
 ·rw[A5 hr];rfl
variable[OO]
class KnB[OO]:Prop where
 bound:zB 50 [ePn pS,.sl 1 (gS.map λg=>.sl 1 (g.map eI)),eI 2]=some (.val (.tup [eI 307200,eI 0]))
theorem c154:zB 154 []=some (.val (eFm fS)):=C154.trans (by kernel_rfl)
theorem c155:zB 155 []=some (.val (ePn pS)):=by rw[C155,c154];simp only[zJ,hFm fS okS,zD,zQ,zS,zW,zh,zi,zZ,zI,zR];rfl
theorem a1:zB 64 [eSi fS.s,eI 0,eI 0,eI 2]=some (.val (.tup [eI 2,eI 1,eI 0])):=(c64 fS.s 0 0 2).trans (by kernel_rfl)
theorem a2:zB 64 [eSi fS.s,eI 1,eI 0,eI 2]=some (.val (.tup [eI 0,eI 3,eI 0])):=(c64 fS.s 1 0 2).trans (by kernel_rfl)
theorem a3[KnW]:zB 77 [eSi fS.s,eWk fS.w,eI 0]=some (.val (.tup [.sl 1 [eI 0,eI 128,eI 64],eI 0])):=(c77 fS.s fS.w 0).trans (by kernel_rfl)
theorem a4[KnO]:zB 68 [eSi fS.s,eI 0]=some (.val (.tup [.sl 1 [eI 0,eI 1,eI 2],eI 0])):=(KnO.order fS.s 0).trans (by kernel_rfl)
theorem a5[KnW]:zB 78 [eSi fS.s,eWk fS.w,eI 0,eI 4]=some (.val (.tup [.sl 1 [eI 1024,eI 512,eI 768],eI 0])):=(c78 fS.s fS.w 0 4).trans (by kernel_rfl)
theorem a6[KnW]:zB 32 [eFm fS,eI 0,eI 4]=some (.val (.tup [.sl 1 [eI 76800,eI 25600,eI 76800],eI 0])):=(c32 fS okS 0 4).trans (by kernel_rfl)
theorem a7[KnW]:zB 32 [eFm fS,eI 0,eI 5]=some (.val (.tup [.sl 1 [eI 0,eI 0,eI 0],eI 0])):=(c32 fS okS 0 5).trans (by kernel_rfl)
theorem a8:zB 106 [eCu fS.c,eI 640]=some (.val (.tup [eI 51200,eI 0])):=(c106 fS.c 640).trans (by kernel_rfl)
theorem a14[KnW]:zB 30 [eFm fS]=some (.val (.tup [eI 358400,eI 0])):=(c30 fS okS).trans (by kernel_rfl)
theorem a15[KnW]:zB 84 [eFm fS]=some (.val (.tup [eI 460800,eI 0])):=(c84 fS okS).trans (by kernel_rfl)
theorem a16[KnW]:zB 85 [eFm fS]=some (.val (.tup [.agg 1 [eI 2,eI 9],eI 0])):=(c85 fS okS).trans (by kernel_rfl)
theorem a18[KnW][KnS]:zB 44 [ePn pS,eI 2]=some (.val (.tup [.sl 1 [eI 0,eI 2],eI 307200,eI 0])):=(c44 pS okS 2).trans (by kernel_rfl)
theorem textS:textB fS.c=bs [53,32,48,32,48,32,49,48,48,32,51,48,48,32,51,48,48]:=by
 have e5:AZ 5=[53]:=by rw[show(5:Int)=((5:Nat):Int) from rfl,Bc,BY (by decide)];decide
 have e0:AZ 0=[48]:=by rw[show(0:Int)=((0:Nat):Int) from rfl,Bc,BY (by decide)];decide
 have e100:AZ 100=[49,48,48]:=by rw[show(100:Int)=((100:Nat):Int) from rfl,Bc,Ca,dif_neg (by decide),BX (by decide) (by decide)];decide
 have e300:AZ 300=[51,48,48]:=by rw[show(300:Int)=((300:Nat):Int) from rfl,Bc,Ca,dif_neg (by decide),BX (by decide) (by decide)];decide
 unfold textB fS;simp only[A4,Bm,e5,e0,e100,e300];decide
theorem a21[KnS]:zB 108 [eCu fS.c]=some (.val (.tup [.str (bs [53,32,48,32,48,32,49,48,48,32,51,48,48,32,51,48,48]),eI 0])):=by rw[c108,textS];exact(show _=_ by kernel_rfl)
theorem same3(a b c x y z:Int):zB 126 [.sl 1 [eI a,eI b,eI c],.sl 1 [eI x,eI y,eI z]]=some (.val (.bool (decide ([a,b,c]=[x,y,z])))):=c126 [a,b,c] [x,y,z] (by simp)
theorem same2(a b x y:Int):zB 126 [.sl 1 [eI a,eI b],.sl 1 [eI x,eI y]]=some (.val (.bool (decide ([a,b]=[x,y])))):=c126 [a,b] [x,y] (by simp)
theorem w0:Ay.wrap (0+0)=0:=by decide
theorem bneS(a:Int):bne a a=false:=by simp
theorem hRat(a b:Int):zF EE 6 160 (.agg 1 [eI a,eI b])=true:=by kernel_rfl
theorem eqRat(a b c d:Int):YT EE 160 (.agg 1 [eI a,eI b]) (.agg 1 [eI c,eI d])=some ((a == c) && ((b == d) && true)):=by kernel_rfl
set_option maxHeartbeats 4000000 in
theorem awake[KnW][KnS][KnO][KnB]:zB 33 []=some (.val (.bool true)):=by have hg:zB 50 [ePn pS,.sl 1 [.sl 1 [eI 0,eI 1],.sl 1 [eI 2]],eI 2]=some (.val (.tup [eI 307200,eI 0])):=KnB.bound;rw[C33,c154];simp only[zJ,hFm fS okS,zD,zQ,zS,zW,zh,zi,zZ,zI,zR];simp only[a1,a2,a3,a4,a5,a6,a7,a8,zJ,z1,z8,zK,zN,h3,h46,h25,Ad,zD,zS,zW,zh,zI,zR,w0,bneS,zU,same3,decide_true,h4,zp,BF];simp only[a14,a15,a16,c155,zJ,z1,z8,zK,zN,h3,h46,hRat,Ad,zD,hPn pS okS,zQ,zS,zW,zh,zi,je,zZ,zI,zR];simp only[a18,hg,a21,zJ,z1,z8,zK,zN,h3,h46,h9,h25,Ad,zD,zQ,zS,zW,zh,zZ,zI,zR,w0,beq_self_eq_true,m1,eqRat,Ap,same2,decide_true,h4,zp]
end Go.Am
namespace Go.Am
open Go.Proofs
open Go Go.RowKit Go.Maps
theorem rd_row{L:Nat->List Nat}{S:Nat->Prop}{V:World}{B n:Nat}{oa:Option Addr}{oc:Nat}{l:List Int}(hn:l.length=n)(hr:V.ownsRow B 3 1 (.slice oa n oc) n (l.map (Ak .i64)))(hS:∀b,B<=b->b<V.heap.size->S b) :
  RV L S V (.sl 1 (l.map eI)) (.slice oa n oc):=by
 have hlt:∀{g:Nat} {o:Obj},V.heap[g]? = some o->g<V.heap.size:=λh=>(Au.1 h).1
 have el:∀(i:Nat) (h:i<(l.map eI).length) (h':i<(l.map λm=>[Ak .i64 m]).length),RD L S V (l.map eI)[i] (l.map λm=>[Ak .i64 m])[i]:=λi h h'=>by rw[At,At];exact .int _ _
 have hz:∀cs∈(l.map λm=>[Ak .i64 m]),cs.length=1:=λcs h=>by obtain⟨m,_,rfl⟩:=Aq.1 h;rfl
 obtain⟨h1,h2⟩:=hr;have hc:n<=oc:=by
  rcases h2 with ⟨e,e2⟩ | ⟨g,cap,cur,e,hg,hh,hc1,_⟩
  ·omega
  ·injection e with _ _ e5;omega
 refine⟨.sl 1 (l.map eI) oa n oc (l.map λm=>[Ak .i64 m]) (by simp[hn]) hc (by simp) el hz λh0=>?_,rfl⟩
 rcases h2 with ⟨e,e2⟩ | ⟨g,cap,cur,e,hg,hh,hc1,hc2,hsz,ht⟩
 ·omega
 ·injection e with e3 e4 e5;refine⟨⟨g,0,none⟩,e3,rfl,hS g hg (hlt hh),λj u hj=>?_⟩
  rw[flat1] at hj;have hj2:(cur.toList.take (n * 1))[j]? = some u:=by rw[ht];exact hj
  rw[BT] at hj2;split at hj2
  ·rw[jr rfl];simp only[Bd,hh,AK];simpa using hj2
  ·cases hj2
theorem ch_val{E:Env}{S:Nat->Prop}{w:World}{ys:List DV}{e:Int}{fd:Bool}{v:Value}(h:RV E.L S w (.tup [.agg 1 [.sl 1 ys,eI e],.bool fd]) v):∃pa pn pc,v=.tuple #[.agg #[.slice pa pn pc,.int .i64 e],.bool fd]:=by
 obtain⟨vs,rfl,hl,hv⟩:=h
 match vs,hl with
 | [va,vb],_ =>
  have h0:RV E.L S w (.agg 1 [.sl 1 ys,eI e]) va:=hv 0 (by simp) (by simp)
  have h1:RV E.L S w (.bool fd) vb:=hv 1 (by simp) (by simp)
  obtain rfl:=h1.bool;obtain⟨cs,rfl,hcs⟩:=h0.agg;generalize hq:cs.toList=q at hcs;cases hcs with
  | agg _ _ css hl h hz =>
   match css,hl with
   | [c0,c1],_ =>
    have e0:RD E.L S w (.sl 1 ys) c0:=h 0 (by simp) (by simp)
    have e1:RD E.L S w (eI e) c1:=h 1 (by simp) (by simp)
    have e2:=e1.int1;subst e2;cases e0 with
    | sl _ _ a n c _ _ _ _ _ _ _ =>
     refine⟨a,n,c,?_⟩;have:cs=#[.slice a n c,.int .i64 e]:=by apply Array.ext';simpa using hq
     rw[this]
theorem qt{en:List Nat->Int}{near:Nat->Nat->Bool}:∀(l taken:List Nat) (n:Nat) (c:List Nat) (e:Int),j7 en near l taken n=some (c,e)->e=en c/\c.length=taken.length+n/\n<=l.length/\∀i∈c,i∈taken\/i∈l
 | l,taken,0,c,e,h=>by
  have h':some (taken,en taken)=some (c,e):=by cases l <;> exact h
  injection h' with h'
  injection h' with h1 h2
  subst h1;exact⟨h2.symm,rfl,Av _,λi hi=>.inl hi⟩
 | [],taken,n+1,c,e,h=>by cases h
 | i :: l,taken,n+1,c,e,h=>by
  rcases zG0 h with h | h
  ·split at h
   ·cases h
   ·obtain⟨h1,h2,h0,h3⟩:=qt l _ n c e h;refine⟨h1,by simp at h2;omega,by simp;omega,λj hj=>?_⟩
    rcases h3 j hj with h | h
    ·rcases Bw.1 h with h | h
     ·exact .inl h
     ·simp at h;exact .inr (by simp[h])
    ·exact .inr (by simp[h])
  ·obtain⟨h1,h2,h0,h3⟩:=qt l taken (n+1) c e h;exact⟨h1,h2,by simp;omega,λj hj=>(h3 j hj).imp id λh=>by simp[h]⟩
theorem zHF{p:Pn}(h:PlanOK p)(c:List Nat)(hc:c.length<=64):0<=enP p c/\enP p c<=30000000000000000:=by
 have:=Yl h.v.c p.w (ps:=c.map λi=>p.ps.getD i default) (by simpa using hc) 0 h.v.r h.v.q
 unfold enP;omega
theorem best_at[OO](hE:EnvOKo PP EE OO.o)[KnW][KnS]{p:Pn}(h:PlanOK p){S:Nat->Prop}{w1:World}{B:Nat}{sa:Option Addr}(hsa:RV EE.L S w1 (.dp (eSe p)) (.pointer sa))(hg:GlobOK EE S w1)(hlt:∀b,S b->b<B)(hBw:B<=w1.heap.size)
  (V:World) (l:List Nat) (oa:Option Addr) (n oc k:Nat) (hB:Below B w1 V) (hn:l.length=n) (hrow:V.ownsRow B 3 1 (.slice oa n oc) n ((l.map (B7:Nat->Int)).map (Ak .i64))) (hk:k<=64) (hl:l.length<=1000) (hi:∀i∈l,i<p.ps.length) :
  Calls PP 162 #[.pointer sa,.slice oa n oc,.slice none 0 0,.int .i64 k] V λe w'=>∃(pa:Option Addr) (pn pc:Nat) (en:Int) (fd:Bool),e=.returned (.tuple #[.agg #[.slice pa pn pc,.int .i64 en],.bool fd])/\Below V.heap.size V w' /\
   (j7 (enP p) (jP p) l [] k).map (·.2)=(if fd=true then some en else none)/\0<=en/\en<=1000000000000000000:=by
 have hVs:=hB.size;have key:=(jo hE XX 162 [.dp (eSe p),.sl 1 (l.map eN),.sl 1 (([]:List Nat).map eN),eN k] _ (c162 p h l [] k hl (by simpa using hk) hi (by simp))).2 (λb=>S b\/(B<=b/\b<V.heap.size)) V
  [.pointer sa,.slice oa n oc,.slice none 0 0,.int .i64 k] (hg.mono (λb hb=>.inl hb) (λb hb=>hB.block b (hlt b hb))) (λb hb=>by
   rcases hb with hb | hb
   ·have:=hlt b hb;omega
   ·exact hb.2) rfl (λi h1 h2=>by
   match i,h1,h2 with
   | 0,_,_=>exact hsa.mono (λb hb=>.inl hb) (λb hb=>hB.block b (hlt b hb))
   | 1,_,_ =>
    have:=rd_row (L:=EE.L) (S:=λb=>S b\/(B<=b/\b<V.heap.size)) (by simpa using hn) hrow (λb h1 h2=>.inr ⟨h1,h2⟩)
    rw[<-zHv] at this;exact this
   | 2,_,_=>exact⟨.sl 1 [] none 0 0 [] rfl (Al 0) rfl (λi h=>by simp at h) (by simp) (by simp),rfl⟩
   | 3,_,_=>exact .mkInt _ _)
 refine key.mono λe w' ⟨v,he,hr⟩=>?_
 subst he;cases hb:j7 (enP p) (jP p) l [] k with
 | none =>
  rw[hb] at hr;obtain⟨S',hBl,_,_,_,hv⟩:=hr;obtain⟨pa,pn,pc,rfl⟩:=ch_val (E:=EE) hv;exact⟨pa,pn,pc,0,false,rfl,hBl,rfl,by omega,by omega⟩
 | some c =>
  obtain⟨c,e⟩:=c;rw[hb] at hr;obtain⟨S',hBl,_,_,_,hv⟩:=hr;obtain⟨pa,pn,pc,rfl⟩:=ch_val (E:=EE) hv;obtain⟨h1,h2,_,_⟩:=qt _ _ _ _ _ hb;have:=zHF h c (by simp at h2;omega)
  subst h1;exact⟨pa,pn,pc,_,true,rfl,hBl,rfl,by omega,by omega⟩
end Go.Am
namespace Go.Am
open Go.Proofs
open Go
theorem zJV{d0:Int->Option Int}{bst:Nat->Option Int}{M X Y:Int}(hX:0<=X)(hY:0<=Y)(hd:∀m v,d0 m=some v->0<=m/\m<=M/\0<=v/\v<=X)(hb:∀k e,bst k=some e->0<=e/\e<=Y) :
  ∀(L:Nat) (m v:Int),zDy d0 bst L m=some v->0<=m/\m+1<=M+L/\0<=v/\v<=X+Y
 | 0,m,v,h=>by cases h
 | L+1,m,v,h=>by
  unfold zDy at h;have ih:=zJV hX hY hd hb L m;cases hbl:bst L with
  | none =>
   rw[hbl] at h;have:=ih v h;omega
  | some be =>
   rw[hbl] at h;have hbe:=hb L be hbl;simp only[zGk] at h;cases hx:d0 (m - L) with
   | none =>
    rw[hx] at h;have:=ih v h;omega
   | some e =>
    rw[hx] at h;have he:=hd _ _ hx;cases hy:zDy d0 bst L m with
    | none =>
     rw[hy] at h;simp only[Be] at h;omega
    | some old =>
     rw[hy] at h;have ho:=ih old hy;simp only[Be] at h;split at h <;> omega
def JJ:List (List Int)->Nat
 | []=>0
 | g :: gs=>g.length+JJ gs
theorem qv:∀a b:List (List Int),JJ (a++b)=JJ a+JJ b
 | [],b=>by simp[JJ]
 | g :: a,b=>by have:=qv a b;simp only[A9,JJ];omega
theorem zBj:∀a:List (List Int),JJ a.reverse=JJ a
 | []=>rfl
 | g :: a=>by rw[List.reverse_cons,qv,zBj a];simp only[JJ];omega
theorem zDM(a:List (List Int))(k:Nat):JJ (a.take k)<=JJ a:=by have:=qv (a.take k) (a.drop k);rw[List.take_append_drop] at this;omega
theorem zJQ{bst:List Int->Nat->Option Int}{Y:Int}(hY:0<=Y):∀gs:List (List Int),(∀g∈gs,∀k e,bst (JH g) k=some e->0<=e/\e<=Y)->∀m v,zDx bst gs m=some v->0<=m/\m<=JJ gs/\0<=v/\v<=gs.length * Y
 | [],_,m,v,h=>by
  unfold zDx at h;split at h
  ·injection h with h;subst h
   rename_i h;subst h;simp[JJ]
  ·cases h
 | g :: gs,hb,m,v,h=>by
  have ih:=zJQ hY gs (λg hg=>hb g (by simp[hg]))
  have hl:(0:Int)<=gs.length * Y:=Int.mul_nonneg (by omega) hY
  have:=zJV hl hY (λm v h=>ih m v h) (hb g (by simp)) _ m v h
  have e:((g :: gs).length:Int) * Y=gs.length * Y+Y:=by simp[Int.add_mul]
  rw[e];simp only[JJ];omega
theorem zJM:∀gs:List (List Int),zII gs<=2 ^ JJ gs
 | []=>Al _
 | g :: gs=>by have h1:=zJM gs;have h2:g.length+1<=2 ^ g.length:=Nat.lt_two_pow_self;simp only[zII,JJ,Nat.pow_add];exact BB h2 h1
noncomputable def bstP(p:Pn)(l:List Int)(k:Nat):Option Int:=(j7 (enP p) (jP p) (l.map Ac) [] k).map (·.2)
theorem bstP_bnd{p:Pn}(h:PlanOK p){l:List Int}(hl:l.length<=64)(k:Nat)(e:Int)(hb:bstP p l k=some e):0<=e/\e<=30000000000000000:=by
 unfold bstP at hb;cases hc:j7 (enP p) (jP p) (l.map Ac) [] k with
 | none=>rw[hc] at hb;cases hb
 | some c =>
  obtain⟨c,e'⟩:=c;rw[hc] at hb;injection hb with hb
  have hb:e'=e:=hb;obtain⟨h1,h2,h3,_⟩:=qt _ _ _ _ _ hc;have:=zHF h c (by simp at h2 h3;omega)
  omega
end Go.Am
namespace Go.Am
open Go.Proofs
open Go
noncomputable def k50:Code:=YL EE 50
noncomputable def cs50:List Code:=[sq1 k50,sq1 (sq2 k50),sq1 (sq2 (sq2 k50))]
noncomputable def k50t:Code:=sq2 (sq2 (sq2 k50))
noncomputable def K50(e:Ex)(st:St):Tr:=match e with
 | .normal=>.goto 900 st
 | e=>zHE EE (EE.fresh 50) (JI EE 50) e st
noncomputable def k50a:Code:=seqs cs50 .skip
noncomputable def a50(p gs n:DV):Tr:=zGS EE (XX.fx 50) (JI EE 50) [p,gs,n] λst=>J0 EE XX (XX.fx 50) k50a 0 0 st K50
noncomputable def t50(v:Int)(b:Bool):Tr:=J0 EE XX (XX.fx 50) (sq2 k50t) 0 0 (zr 42 [(10,.d (.int .i64 v)),(11,.d (.bool b))] []) (zHE EE (EE.fresh 50) (JI EE 50))
end Go.Am
namespace Go.Am
open Go.Proofs
open Go Go.RowKit Go.Maps
theorem zB4{H:Type}{P:Program}(w:World){ops:Array Oper}{rest:List Oper}{o:Oper}{a:Act}{Q:Exit->Act->World->Prop}
  (hg:o.guard=none) (m x v:Operand) (t:TypeId) (hop:o.op=Op.insert t m x v)
  (k e:TypeId) (K:Keyed P k) (ht:P.underlying t=some (.map k e)) (R:Value->Option (DataW H×List MemPlace)) (b n:Nat) (D:DataW H)
  (hm:a.eval m=.map (some b)) (hown:w.ownsMap P k R b n D) (hn:n<maxLen) (key val:Value) (kl:Lit) (hx:a.eval x=key) (hv:a.eval v=val) (hkey:keyOf P k key=some kl)
  (d:DataW H) (ps:List MemPlace) (hval:R val=some (d,ps))
  (hK:∀w',w'.ownsMap P k R b (n+1) (D.put kl d)->w.grownBy w' (some b)->wpList P ops Q rest (a.put o.dst undef) w') :
  wpList P ops Q (o :: rest) a w:=by
 refine wpList_plain hg λK' hK'=>?_
 obtain⟨w',hrun,r1,r2⟩:=hown.update K ht hn hkey hval;unfold Bl;simp[execOp,hop,hm,hx,hv,hrun,Result.andThen];exact hK' _ _ (hK w' r1 r2)
set_option maxRecDepth 100000 in
set_option maxHeartbeats 4000000 in
theorem calls171{H:Type}(V:World)(sa:Option Addr)(gb go gcap:Nat)(gs:List (List Int))(bst:List Int->Nat->Option Int)(ga:Nat->Option Addr)(gc:Nat->Nat)
  (hcell:∀j (h:j<gs.length),V.cell? ⟨gb,go+j,none⟩=some (.slice (ga j) gs[j].length (gc j))) (hgb:gb<V.heap.size) (hgl:gs.length<=64) (hlen64:∀j (h:j<gs.length),gs[j].length<=64)
  (hprod:∀k,zII (gs.take k).reverse<=1000) (hF:∀k m v,zDx bst (gs.take k).reverse m=some v->0<=m/\m<=50/\0<=v/\v<=1000000000000000000)
  (hints:∀j (h:j<gs.length),0<gs[j].length->∃b o,ga j=some ⟨b,o,none⟩/\b<V.heap.size/\zAR V b o gs[j])
  (hbest:∀(W:World) (j:Nat) (h:j<gs.length) (oa:Option Addr) (oc k:Nat),Below V.heap.size V W->W.ownsRow V.heap.size 3 1 (.slice oa gs[j].length oc) gs[j].length ((JH gs[j]).map (Ak .i64))->k<=gs[j].length ->
   Calls Tryz.prog 162 #[.pointer sa,.slice oa gs[j].length oc,.slice none 0 0,.int .i64 k] W λe w'=>∃(pa:Option Addr) (pn pc:Nat) (en:Int) (fd:Bool),e=.returned (.tuple #[.agg #[.slice pa pn pc,.int .i64 en],.bool fd])/\Below W.heap.size W w'/\bst (JH gs[j]) k=(if fd=true then some en else none)/\0<=en/\en<=1000000000000000000) :
  Calls Tryz.prog 171 #[.pointer sa,.slice (some ⟨gb,go,none⟩) gs.length gcap] V λe w'=>∃(b n:Nat) (D:DataW H),e=.returned (.map (some b))/\w'.ownsMap Tryz.prog 3 (plainElem Tryz.prog 3) b n D/\(∀m,fD D m=zDx bst gs.reverse m)/\Below V.heap.size V w':=by
 have hmm:=@run_makeMap Tryz.prog;have HC:Hid _:=hcell;have HI:Hid _:=hints;have HB:Hid _:=hbest;have HF:Hid _:=hF;have HP:Hid _:=hprod;have HL:Hid _:=hlen64;clear hcell hints hbest hF hprod hlen64;have hown0:(V.alloc (.map #[] 0)).ownsMap Tryz.prog 3 (plainElem Tryz.prog 3) V.heap.size 0 (.map []:DataW H):=BQ _ _ _ _
 go_enter Tryz.func171,Tryz.ntmps171
 go_wp2_with (first
  | (refine zB4 _ rfl _ _ _ 278 rfl 3 3 law3 Tryz.underlying278 _ V.heap.size _ _ rfl hown0 (by unfold maxLen;omega) _ _ _ rfl rfl (keyOf_int_mk Tryz.underlying3 (by decide)) _ [] (plainElem_int Tryz.underlying3 (by decide)) ?_;intro w1 hown1 hg1;go_frame)
  | go_in)
 have hs1:V.heap.size+1<=w1.heap.size:=by have:=hg1.size;rw[AI] at this;exact this
 have hB1:Below V.heap.size V w1:=((AH V.heap.size V).alloc (Al _) _).grown hg1 (by rw[AI];omega) (λj hj=>by cases hj;exact Al _)
 refine outer171 w1 sa V.heap.size gb go gcap V.heap.size 1 gs _ _ _ _ _ _ _ _ _ _ _ _ _ _ _ _ _ _ _ _ _ _ _ _ _ _ _ _ _ _ _ _ _ _ _ _ _ _ _ _ _ _ _ _ _ _ _ _ _ _ _ _ _ _ _ _ _ _ _ _ _ _ _ _ _ _ _ _ _ _ _ _ _ _ _ _ _ bst ga gc hown1 (by omega) ?_ hgb hgl HL.out ?_ (Al 1) (Al _) HP.out HF.out ?_ ?_ _ ?_
 ·intro j h;exact(Ao (a:=⟨gb,go+j,none⟩) (hB1.block gb hgb)).trans (HC.out j h)
 ·intro m;rw[fD_put ⟨[],rfl⟩];rfl
 ·intro j h h0;obtain⟨b,o,e1,e2,e3⟩:=HI.out j h h0;exact⟨b,o,e1,e2,λi hi=>(Ao (a:=⟨b,o+i,none⟩) (hB1.block b e2)).trans (e3 i hi)⟩
 ·intro W j h oa oc k hBW hrow hk;exact HB.out W j h oa oc k (hB1.trans hBW) hrow hk
 ·intro v21 v7 v8 v9 v10 v11 v12 v13 v14 v15 v16 v22 v23 v24 v25 v26 v27 v28 v29 v30 v31 v32 v33 v34 v35 v36 v37 v38 v39 v40 v41 v42 v43 v44 v45 v46 v47 v48 v49 v50 v51 v52 v53 v54 v55 v56 v57 v58 v59 v60 v61 v62 v63 v64 v65 v66 v67 v68 v69 v70 v71 v72 v73 v74 v75 v76 v77 v78 v79 b n D w' hb hown' hA' hB';have hend:∃(b' n:Nat) (D:DataW H),Ending.returned (.map (some b))=.returned (.map (some b'))/\w'.ownsMap Tryz.prog 3 (plainElem Tryz.prog 3) b' n D/\(∀m,fD D m=zDx bst gs.reverse m)/\Below V.heap.size V w':=⟨b,n,D,rfl,hown',hA',hB1.trans hB'⟩;clear HC HI HB HF HP HL hown' hA' hown1 hown0;go_wp2;go_ret;exact hend
end Go.Am
namespace Go.Am
open Go.Proofs
open Go Go.RowKit Go.Maps
open Classical
section
variable{P:Program}{ops:Array Oper}{Q:Exit->Act->World->Prop}{a:Act}{w:World}{rest:List Oper}{d:Option Tmp}{ty:TypeId}{s:String}{af:Array Edge}
theorem zHn(x:Operand){v:Value}(he:a.eval x=v)(h:wpList P ops Q rest (a.put d v) w):wpList P ops Q ({ dst:=d,op:=.move x,type:=ty,pos:=s,after:=af,guard:=none } :: rest) a w :=
 wpList_plain rfl λK hK=>by unfold Bl;simp only[execOp,he,Bp,AX,Bo,BH];exact hK _ _ h
theorem zGg(x:Operand){v:Value}(he:a.eval x=v)(h:wpList P ops Q rest (a.put d v) w):wpList P ops Q ({ dst:=d,op:=.assign x,type:=ty,pos:=s,after:=af,guard:=none } :: rest) a w :=
 wpList_plain rfl λK hK=>by unfold Bl;simp only[execOp,he,Bp,AX,Bo,BH];exact hK _ _ h
theorem wl_load{t:TypeId}(x:Operand){u v:Value}(he:a.eval x=u)(hrun:(Instr.loadAt t u).run P w=.ok v w)(h:wpList P ops Q rest (a.put d v) w):wpList P ops Q ({ dst:=d,op:=.load t x,type:=ty,pos:=s,after:=af,guard:=none } :: rest) a w :=
 wpList_plain rfl λK hK=>by unfold Bl;simp only[execOp,he,Bp,hrun,AX,Bo,BH];exact hK _ _ h
theorem zEE(x:Operand)(i:Nat){u v:Value}(he:a.eval x=u)(hrun:(Instr.extract u i).run P w=.ok v w)(h:wpList P ops Q rest (a.put d v) w):wpList P ops Q ({ dst:=d,op:=.extract x i,type:=ty,pos:=s,after:=af,guard:=none } :: rest) a w :=
 wpList_plain rfl λK hK=>by unfold Bl;simp only[execOp,he,Bp,hrun,AX,Bo,BH];exact hK _ _ h
theorem wl_call1{f:FuncId}{ats:Array TypeId}(x:Operand){v:Value}{R:Ending->World->Prop}(he:a.eval x=v)(eg:∀args w,(callFunc f args).run P w=.ok (.enter f args) w)(hc:Calls P f #[v] w R)
  (h:∀e w',R e w'->∃u,e=.returned u/\wpList P ops Q rest (a.put d u) w'):wpList P ops Q ({ dst:=d,op:=.call { callee:=.value (.func f),args:=#[x],argTypes:=ats },type:=ty,pos:=s,after:=af,guard:=none } :: rest) a w :=
 wpList_plain rfl λK hK=>by
  have hev:a.eval (.func f)=.func (.func f) #[] #[]:=rfl;have hrun:(execOp a.eval { dst:=d,op:=.call { callee:=.value (.func f),args:=#[x],argTypes:=ats },type:=ty,pos:=s,after:=af,guard:=none }).run P w=.ok (.enter f #[v]) w:=by simp[execOp,resolve,BP,invoke,hev,he,eg]
  unfold Bl;rw[hrun];show Calls P f _ _ _;refine hc.mono λe w' hr=>?_
  obtain⟨u,rfl,hq⟩:=h e w' hr;exact hK _ _ hq
theorem wl_call2{f:FuncId}{ats:Array TypeId}(x y:Operand){v u:Value}{R:Ending->World->Prop}(he:a.eval x=v)(he':a.eval y=u)(eg:∀args w,(callFunc f args).run P w=.ok (.enter f args) w)(hc:Calls P f #[v,u] w R)
  (h:∀e w',R e w'->∃u,e=.returned u/\wpList P ops Q rest (a.put d u) w'):wpList P ops Q ({ dst:=d,op:=.call { callee:=.value (.func f),args:=#[x,y],argTypes:=ats },type:=ty,pos:=s,after:=af,guard:=none } :: rest) a w :=
 wpList_plain rfl λK hK=>by
  have hev:a.eval (.func f)=.func (.func f) #[] #[]:=rfl;have hrun:(execOp a.eval { dst:=d,op:=.call { callee:=.value (.func f),args:=#[x,y],argTypes:=ats },type:=ty,pos:=s,after:=af,guard:=none }).run P w=.ok (.enter f #[v,u]) w:=by simp[execOp,resolve,BP,invoke,hev,he,he',eg]
  unfold Bl;rw[hrun];show Calls P f _ _ _;refine hc.mono λe w' hr=>?_
  obtain⟨u,rfl,hq⟩:=h e w' hr;exact hK _ _ hq
theorem size_put(a:Act)(d:Option Tmp)(v:Value):(a.put d v).tmps.size=a.tmps.size:=by cases d <;> simp[Ce]
theorem eval_same{a:Act}{t:Tmp}(h:t<a.tmps.size)(v:Value):(a.put (some t) v).eval (.tmp t)=v:=by simp only[BC,Ce,AD,Array.getElem?_setIfInBounds_self_of_lt h,Ap]
theorem Y4{a:Act}{t:Tmp}(h:41<a.tmps.size)(ht:t<=41)(v:Value):(a.put (some t) v).eval (.tmp t)=v:=eval_same (Nat.lt_of_le_of_lt ht h) v
theorem jz(a:Act){t t':Tmp}(h:t≠t')(v:Value):(a.put (some t) v).eval (.tmp t')=a.eval (.tmp t'):=by simp only[BC,Ce,AD];rw[Array.getElem?_setIfInBounds_ne h]
end
noncomputable def head50(r:CR)(tgt:St)(j:Nat)(st:St):Tr:=if j=900 then (if Le [] tgt st then .ret r else .fail) else Jj EE XX (XX.fx 50) j k50a 0 0 K50 st
noncomputable def K50r(r:CR)(tgt:St)(e:Ex)(st:St):Option CR:=match e with
 | .normal=>if Le [] tgt st then some r else none
 | e=>bnd (zEf EE (EE.fresh 50) (JI EE 50) e st) (λr0=>some (zCF EE (EE.fresh 50) (JI EE 50) r0))
section
variable[OO]
theorem a50_run(g:Nat->St->Option CR)(p gs n:DV):run (zB) g (a50 p gs n) =
 ifO (zV (zF EE 6) [88,95,3] [p,gs,n])
 (zH (zB 160 [(.agg 6 [(.sl 2 (elems (nth (flds p) 0))),(.int .i64 (zC (nth (flds p) 1))),(.agg 0 [(.str (zX (nth (flds (nth (flds p) 2)) 0))),(.sl 1 (elems (nth (flds (nth (flds p) 2)) 1))),(.sl 1 (elems (nth (flds (nth (flds p) 2)) 2)))]),(.agg 1 [(.sl 1 (elems (nth (flds (nth (flds p) 3)) 0))),(.int .i64 (zC (nth (flds (nth (flds p) 3)) 1)))]),(.agg 3 (flds (nth (flds p) 4)))])])
 (λr0=>ifO (zF EE 6 46 r0)
  (ifO (bne (zC r0) 0)
  (some (.val (.tup [(.int .i64 0),(.int .i64 (zC r0))])))
  (zH (zB 170 [(.agg 6 [(.sl 2 (elems (nth (flds p) 0))),(.int .i64 (zC (nth (flds p) 1))),(.agg 0 [(.str (zX (nth (flds (nth (flds p) 2)) 0))),(.sl 1 (elems (nth (flds (nth (flds p) 2)) 1))),(.sl 1 (elems (nth (flds (nth (flds p) 2)) 2)))]),(.agg 1 [(.sl 1 (elems (nth (flds (nth (flds p) 3)) 0))),(.int .i64 (zC (nth (flds (nth (flds p) 3)) 1)))]),(.agg 3 (flds (nth (flds p) 4)))]),(.sl 1 (BA (cnE EE 25) (elems gs)))])
   (λr1=>ifO (zF EE 6 46 r1)
   (zH (zB 149 [(.int .i64 (zC n)),(.int .i64 0),(.int .i64 (((Aa (elems (nth (flds p) 0))):Nat):Int))])
    (λr2=>ifO (zF EE 6 46 r2)
    (zH (zB 148 [(.sl 1 [(.int .i64 (zC r1)),(.int .i64 (zC r2))])])
     (λr3=>ifO (zF EE 6 46 r3)
     (ifO (bne (zC r3) 0)
      (some (.val (.tup [(.int .i64 0),(.int .i64 (zC r3))])))
      ((g 900 (zr 42 [(0,(.d (.agg 6 [(.sl 2 (elems (nth (flds p) 0))),(.int .i64 (zC (nth (flds p) 1))),(.agg 0 [(.str (zX (nth (flds (nth (flds p) 2)) 0))),(.sl 1 (elems (nth (flds (nth (flds p) 2)) 1))),(.sl 1 (elems (nth (flds (nth (flds p) 2)) 2)))]),(.agg 1 [(.sl 1 (elems (nth (flds (nth (flds p) 3)) 0))),(.int .i64 (zC (nth (flds (nth (flds p) 3)) 1)))]),(.agg 3 (flds (nth (flds p) 4)))]))),(1,(.d (.sl 1 (elems gs)))),(2,(.d (.int .i64 (zC n)))),(3,(.ptr 3 415 0 [])),(6,(.d (.int .i64 0))),(7,(.d (.int .i64 0))),(8,(.d (.int .i64 (zC r0)))),(9,(.d (.int .i64 (zC r3)))),(12,(.d (.agg 6 [(.sl 2 (elems (nth (flds p) 0))),(.int .i64 (zC (nth (flds p) 1))),(.agg 0 [(.str (zX (nth (flds (nth (flds p) 2)) 0))),(.sl 1 (elems (nth (flds (nth (flds p) 2)) 1))),(.sl 1 (elems (nth (flds (nth (flds p) 2)) 2)))]),(.agg 1 [(.sl 1 (elems (nth (flds (nth (flds p) 3)) 0))),(.int .i64 (zC (nth (flds (nth (flds p) 3)) 1)))]),(.agg 3 (flds (nth (flds p) 4)))]))),(13,(.d (.int .i64 (zC r0)))),(14,(.d (.int .i64 (zC r0)))),(15,(.d (.bool false))),(17,(.d (.agg 6 [(.sl 2 (elems (nth (flds p) 0))),(.int .i64 (zC (nth (flds p) 1))),(.agg 0 [(.str (zX (nth (flds (nth (flds p) 2)) 0))),(.sl 1 (elems (nth (flds (nth (flds p) 2)) 1))),(.sl 1 (elems (nth (flds (nth (flds p) 2)) 2)))]),(.agg 1 [(.sl 1 (elems (nth (flds (nth (flds p) 3)) 0))),(.int .i64 (zC (nth (flds (nth (flds p) 3)) 1)))]),(.agg 3 (flds (nth (flds p) 4)))]))),(18,(.d (.sl 1 (elems gs)))),(19,(.d (.int .i64 (zC r1)))),(20,(.d (.int .i64 (zC n)))),(21,(.ptr 3 415 0 [(.mk 6 0)])),(22,(.d (.sl 2 (elems (nth (flds p) 0))))),(23,(.d (.int .i64 (((Aa (elems (nth (flds p) 0))):Nat):Int)))),(24,(.d (.int .i64 (zC r2)))),(25,(.own 25 0 2 1)),(26,(.d (.int .i64 (zC r3)))),(27,(.d (.int .i64 (zC r3)))),(28,(.d (.bool false)))] [(3,(.mk false (.dc 415 [(.agg 6 [(.sl 2 (elems (nth (flds p) 0))),(.int .i64 (zC (nth (flds p) 1))),(.agg 0 [(.str (zX (nth (flds (nth (flds p) 2)) 0))),(.sl 1 (elems (nth (flds (nth (flds p) 2)) 1))),(.sl 1 (elems (nth (flds (nth (flds p) 2)) 2)))]),(.agg 1 [(.sl 1 (elems (nth (flds (nth (flds p) 3)) 0))),(.int .i64 (zC (nth (flds (nth (flds p) 3)) 1)))]),(.agg 3 (flds (nth (flds p) 4)))])]))),(25,(.mk false (.dc 1 [(.int .i64 (zC r1)),(.int .i64 (zC r2))])))]))))
     (none))
    (λ_ _=>none))
    (none))
   (λ_ _=>none))
   (none))
  (λ_ _=>none)))
 (none))
 (λ_ _=>none))
 (none):=by kernel_rfl
theorem t50_run(g:Nat->St->Option CR)(v:Int)(b:Bool):run (zB) g (t50 v b) =
 ifO (!b)
 (some (.val (.tup [(.int .i64 0),(.int .i64 24)])))
 (some (.val (.tup [(.int .i64 v),(.int .i64 0)]))):=by kernel_rfl
theorem go50_end{r:CR}{tgt st:St}(h:Le [] tgt st):goH zB (head50 r tgt) 900 st=some r:=by rw[zGQ];unfold head50;rw[if_pos rfl,if_pos h];rfl
theorem mono50(r:CR)(tgt:St):Mono r (K50r r tgt) (K50r r tgt):=by
 intro e s t hst h;cases e with
 | normal =>
  unfold K50r at h ⊢;simp only at h ⊢;split at h
  ·rename_i hk;rw[if_pos (Le.trans hk hst)]
  ·cases h
 | ret=>exact Yp (E:=EE) (fresh:=EE.fresh 50) (fn:=JI EE 50) .ret s t hst h
 | exit i=>exact Yp (E:=EE) (fresh:=EE.fresh 50) (fn:=JI EE 50) (.exit i) s t hst h
theorem exec50(p gs n:DV)(r:CR)(tgt:St)(h:run zB (goH zB (head50 r tgt)) (a50 p gs n)=some r):∃M,exec EE M (j6 EE zB) (seqs cs50 .skip) (entry Tryz.f50 [p,gs,n]) (K50r r tgt)=some r:=by
 obtain⟨_,h⟩:=zBy (by rw[show(JI EE 50).params.toList.length+(XX.fx 50).caps=3 by kernel_rfl,show(JI EE 50).ntmps=42 by kernel_rfl];omega) h
 refine zAI (X:=XX) (F:=XX.fx 50) (head:=head50 r tgt) (show z7 k50a<=1000 by rw[show z7 k50a=0 by kernel_rfl];omega) (λj hj st=>?_) (λp e st h=>?_) (mono50 r tgt) h
 ·unfold head50;rw[if_neg ?_]
  ·rfl
  ·have:z7 (seqs cs50 .skip)=0:=by kernel_rfl
   rcases hj with ⟨h1,h2,h3⟩ | ⟨h1,h2⟩ <;> omega
 ·cases e with
  | normal =>
   have h1:goX zB (head50 r tgt) p 900 st=some r:=h;cases p with
   | zero=>simp[goX] at h1
   | succ p =>
    have h2:run zB (goX zB (head50 r tgt) p) (head50 r tgt 900 st)=some r:=h1;unfold head50 at h2;rw[if_pos rfl] at h2;unfold K50r;simp only;split at h2
    ·rename_i hk;rw[if_pos hk]
    ·simp[run] at h2
  | ret=>exact qe (E:=EE) (fresh:=EE.fresh 50) (fn:=JI EE 50) (e:=.ret) (st:=st) h
  | exit i=>exact qe (E:=EE) (fresh:=EE.fresh 50) (fn:=JI EE 50) (e:=.exit i) (st:=st) h
theorem tail50(v:Int)(b:Bool):∃M,exec EE M (j6 EE zB) (sq2 k50t) (zr 42 [(10,.d (.int .i64 v)),(11,.d (.bool b))] []) (λe st=>bnd (zEf EE (EE.fresh 50) (JI EE 50) e st) λr0=>some (zCF EE (EE.fresh 50) (JI EE 50) r0)) =
  some (.val (.tup [eI (if b then v else 0),eI (if b then 0 else 24)])):=by
 refine zAI (X:=XX) (F:=XX.fx 50) (head:=λj st=>Jj EE XX (XX.fx 50) j (sq2 k50t) 0 0 (zHE EE (EE.fresh 50) (JI EE 50)) st) (show z7 (sq2 k50t)<=1000 by rw[show z7 (sq2 k50t)=0 by kernel_rfl];omega) (λ_ _ _=>rfl) (λp e st h=>qe h) Yp ?_
 refine(t50_run _ v b).trans ?_;cases b <;> rfl
def eGs(gs:List (List Int)):DV:=.sl 1 (gs.map λg=>.sl 1 (g.map eI))
def tgt50(p:Pn)(gs:List (List Int))(n:Int):St:=zr 42 [(1,.d (eGs gs)),(2,.d (eI n)),(3,.ptr 3 415 0 [])] [(3,⟨false,.dc 415 [ePn p]⟩)]
theorem run50(p:Pn)(hr:zu p.r)(gs:List (List Int))(n:Int)(r:CR)(hf:zJi p=0)(hg:zB 170 [ePn p,eGs gs]=some (.val (eI 0)))(hn:zf n 0 p.ps.length=0):run zB (goH zB (head50 r (tgt50 p gs n))) (a50 (ePn p) (eGs gs) (eI n))=some r:=by
 rw[a50_run];have e0:zV (zF EE 6) [88,95,3] [ePn p,eGs gs,eI n]=true:=by rw[zK,hPn p hr];rfl
 have e1:=c160 p hr;rw[hf] at e1;have e3:∀m:Int,zF EE 6 46 (eI m)=true:=λm=>by kernel_rfl
 have e4:bne (zC (eI 0)) (0:Int)=false:=rfl;have hg':zB 170 [ePn p,.sl 1 ((gs.map λg=>DV.sl 1 (g.map eI)).map (cnE EE 25))]=some (.val (eI 0)):=by rw[zIU];exact hg
 have e5:=c149 n 0 p.ps.length;rw[hn] at e5;have e6:=Qs 0 0;rw[e0,zD];simp only[eGs,zQ,zS,zW,zh,zi,je,zR,zI,zZ,Ab];rw[e1];simp only[zJ];rw[e3,zD,e4,zU,hg'];simp only[zJ];rw[e3,zD,e5];simp only[zJ];rw[e3,zD,zI,e6];simp only[zJ];rw[show zT [0,0]=0 from rfl,e3,zD,e4,zU]
 refine go50_end ?_;show Le [] (tgt50 p gs n) _;rw[show tgt50 p gs n=forget [1,2,3] _ from ?_]
 ·exact Jf _ _
 ·unfold tgt50 eGs ePn;kernel_rfl
end
end Go.Am
namespace Go.Am
open Go.Proofs
open Go Go.RowKit Go.Maps Go.Proofs
open Classical
structure V50[OO](p:Pn)(gs:List (List Int))(n:Int):Prop where
 r:zu p.r
 few:zJi p=0
 grp:zB 170 [ePn p,eGs gs]=some (.val (eI 0))
 idx:∀g∈gs,∀i∈g,0<=i/\i<p.ps.length
 pos:0<gs.length
 len:gs.length<=30
 sum:JJ gs<=8
 n:zf n 0 p.ps.length=0
noncomputable def YQ(p:Pn)(gs:List (List Int))(n:Int):Int×Int:=match zDx (bstP p) gs.reverse n with
 | some v=>(v,0)
 | none=>(0,24)
noncomputable def kk50:Code:=match Tryz.f50.body with | some c=>c | none=>.skip
theorem r50_eq:sq1 k50t=q1 (q2 (q2 (q2 kk50))):=by kernel_rfl
theorem body50:Tryz.f50.body=some (seqs cs50 (.seq (sq1 k50t) (sq2 k50t))):=by kernel_rfl
theorem Q5:∀{gs:List (List Int)} {g:List Int},g∈gs->g.length<=JJ gs
 | [],g,h=>by simp at h
 | a :: gs,g,h=>by
  simp only[JJ];rcases A3.1 h with rfl | h
  ·omega
  ·have:=Q5 h;omega
theorem und42(t:Nat)(h:t<42):j5 (zr 42 [] []).tm (some t) .undef=(zr 42 [] []).tm:=by
 have e:(zr 42 [] []).tm=Af 42 .undef:=by kernel_rfl
 rw[e];show(Af 42 AV.undef).set t .undef=_;apply Ax (by simp)
 intro i h1 h2;rw[A8];split
 ·exact(List.getElem_replicate _).symm
 ·rfl
theorem Rel.und{base:Nat}{S:Nat->Prop}{φ:Nat->Option Nat}{a:Act}{w:World}(h:Rel EE base S φ (zr 42 [] []) a w){t:Nat}(ht:t<42)(u:Value):Rel EE base S φ (zr 42 [] []) (a.put (some t) u) w:=by have h1:=h.put (some t) (v:=.undef) (u:=u) trivial;rw[und42 t ht] at h1;exact h1
section
variable[OO]
theorem groups_at{S:Nat->Prop}{w:World}{gs:List (List Int)}{v:Value}(h:RV EE.L S w (eGs gs) v)(hlt:∀b,S b->b<w.heap.size)(hpos:0<gs.length) :
  ∃(gb go gcap:Nat) (ga:Nat->Option Addr) (gc:Nat->Nat),v=.slice (some ⟨gb,go,none⟩) gs.length gcap/\gb<w.heap.size/\(∀j (h:j<gs.length),w.cell? ⟨gb,go+j,none⟩=some (.slice (ga j) gs[j].length (gc j))) /\
   (∀j (h:j<gs.length),0<gs[j].length->∃b o,ga j=some ⟨b,o,none⟩/\b<w.heap.size/\zAR w b o gs[j]):=by
 obtain⟨a,c,css,rfl,hc,hl,hel,hz,hm⟩:=h.sl;simp only[Ab] at hc hl hel hm ⊢;obtain⟨ad,rfl,hsp,hS,hcell⟩:=hm hpos;obtain⟨gb,go,sp⟩:=ad;simp only at hsp;subst hsp;have hone:∀j,j<gs.length->∃x:Option Addr×Nat,∀h:j<gs.length,w.cell? ⟨gb,go+j,none⟩=some (.slice x.1 gs[j].length x.2)/\(0<gs[j].length->∃b o,x.1=some ⟨b,o,none⟩/\b<w.heap.size/\zAR w b o gs[j]):=by
  intro j hj;have hj':j<css.length:=by omega
  have h1:=hel j hj hj';rw[At] at h1;obtain⟨a',c',e1,e2,e3⟩:=RD.sl1 (e:=eI) (g:=Ak .i64) (λx cs h=>h.int1) h1
  refine⟨(a',c'),λ_=>⟨?_,λh0=>?_⟩⟩
  ·have hfl:=JS css hz j hj' 0 (by omega)
   have:=hcell j _ (by rw[show j=j * 1+0 by omega,hfl,e1];rfl)
   rw[jr rfl] at this;exact this
  ·obtain⟨ad,rfl,s1,s2,s3⟩:=e3 h0;obtain⟨b,o,sp⟩:=ad;simp only at s1;subst s1;refine⟨b,o,rfl,hlt b s2,λi hi=>?_⟩
   have:=s3 i _ (Ah hi);rw[jr rfl] at this;exact this
 obtain⟨xs,hxl,hxs⟩:=YJ gs.length hone;refine⟨gb,go,c,λj=>(xs.getD j (none,0)).1,λj=>(xs.getD j (none,0)).2,rfl,hlt gb hS,λj h=>?_,λj h=>?_⟩
 ·have hj:j<xs.length:=by omega
  have e:xs.getD j (none,0)=xs[j]:=by rw[An,Ah hj];rfl
  show w.cell? _=some (.slice (xs.getD j (none,0)).1 gs[j].length (xs.getD j (none,0)).2);rw[e];exact(hxs j hj h).1
 ·have hj:j<xs.length:=by omega
  have e:xs.getD j (none,0)=xs[j]:=by rw[An,Ah hj];rfl
  show 0<gs[j].length->∃b o,(xs.getD j (none,0)).1=some ⟨b,o,none⟩/\b<w.heap.size/\zAR w b o gs[j];rw[e];exact(hxs j hj h).2
set_option maxHeartbeats 2000000 in
theorem at50v[KnW][KnS](hE:EnvOKo PP EE OO.o){p:Pn}{gs:List (List Int)}{n:Int}(h:V50 p gs n):qM PP EE 50 [ePn p,eGs gs,eI n] (.val (.tup [eI (YQ p gs n).1,eI (YQ p gs n).2])):=by
 refine⟨enters Tryz.func50 (by kernel_rfl) (by kernel_rfl),λS w vals hg hlt hlen hv=>?_⟩
 have hok:=zH3 h.few h.r;have hc:JC PP EE (j6 EE zB):=zAz (jo hE XX);have hD:DOK PP EE:=QE _ _ _;have hR0:=zDF (E:=EE) (fn:=Tryz.f50) hg hlt hlen (show[ePn p,eGs gs,eI n].length<=Tryz.f50.ntmps by simp) hv
 refine calls_of_wp Tryz.func50 body50 ?_;generalize hr:CR.val (.tup [eI (YQ p gs n).1,eI (YQ p gs n).2])=r;have hret:∀ex st' (S':Nat->Prop) (φ':Nat->Option Nat) a' w',ex≠Ex.normal->K50r r (tgt50 p gs n) ex st'=some r->Rel EE w.heap.size S' φ' st' a' w'->Grow w.heap.size S S' w w' ->
   bodyPost PP Tryz.f50 (λe w'=>∃v,e=.returned v/\zAa EE S w r v w') (zBE ex) a' w':=by
  intro ex st' S' φ' a' w' hne hk hR hG;cases ex with
  | normal=>exact absurd rfl hne
  | exit i=>simp[K50r,zEf,bnd] at hk
  | ret =>
   obtain⟨r0,k4,k5⟩:=zA (show bnd (fin EE (EE.fresh 50) (JI EE 50) st') (λr0=>some (zCF EE (EE.fresh 50) (JI EE 50) r0))=some r from hk)
   injection k5 with k5;obtain⟨h1,v,h2,h3⟩:=Jz hD hR hG k4
   exact⟨h1,v,h2,v,rfl,k5 ▸ QL h3⟩
 obtain⟨M,hex⟩:=exec50 (ePn p) (eGs gs) (eI n) r (tgt50 p gs n) (run50 p h.r gs n r h.few h.grp h.n);refine zCS hD JK hc cs50 hex hR0 (λst1 S1 φ1 a1 w1 k1 hR1 hG1=>?_) hret
 have hle:Le [] (tgt50 p gs n) st1:=by
  unfold K50r at k1;simp only at k1;split at k1
  ·assumption
  ·cases k1
 have hR2:=hR1.le hle;obtain⟨u1,hu1,hr1⟩:=hR2.tm 1 (.d (eGs gs)) (by unfold tgt50 eGs ePn;kernel_rfl)
 obtain⟨u2,hu2,hr2⟩:=hR2.tm 2 (.d (eI n)) (by unfold tgt50 eGs ePn;kernel_rfl)
 obtain⟨u3,hu3,hr3⟩:=hR2.tm 3 (.ptr 3 415 0 []) (by unfold tgt50 eGs ePn;kernel_rfl)
 have h42:41<a1.tmps.size:=by
  obtain⟨u,hu,_⟩:=hR2.tm 41 .undef (by unfold tgt50 eGs ePn;kernel_rfl)
  exact(Au.1 hu).1
 have ev1:a1.eval (.tmp 1)=u1:=by simp only[BC,AD,hu1,Ap]
 have ev2:a1.eval (.tmp 2)=u2:=by simp only[BC,AD,hu2,Ap]
 have ev3:a1.eval (.tmp 3)=u3:=by simp only[BC,AD,hu3,Ap]
 have hr1:RV EE.L S1 w1 (eGs gs) u1:=hr1;have hr2:RV EE.L S1 w1 (eI n) u2:=hr2;obtain rfl:=hr2.int;obtain⟨x',ur,he,hrun,hrx⟩:=qo (t:=88) hD hR2 hr3 (ef:={ v:=.d (ePn p) }) (by unfold tgt50 eGs ePn;kernel_rfl)
 have he':AV.d (ePn p)=x':=by simpa using congrArg Eff.v he
 subst he';have hrx:RV EE.L S1 w1 (ePn p) ur:=hrx;have hRe:Rel EE w.heap.size S1 φ1 (zr 42 [] []) a1 w1:=hR2.le (by
  rw[show zr 42 [] []=forget [] (tgt50 p gs n) from by unfold tgt50 eGs ePn;kernel_rfl]
  exact Jf _ _)
 have k161:=(jo hE XX 161 [ePn p] _ (KnS.search p h.r hok.l hok.v.p hok.least.1 hok.least.2)).2 S1 w1 [ur] hR2.glob hR2.lt rfl (λi h1 h2=>by
  match i,h1,h2 with
  | 0,_,_=>exact hrx)
 have eg161:∀args w,(callFunc 161 args).run PP w=.ok (.enter 161 args) w:=Ba Tryz.func161 (by kernel_rfl) rfl
 have eg171:∀args w,(callFunc 171 args).run PP w=.ok (.enter 171 args) w:=Ba Tryz.func171 (by kernel_rfl) rfl
 have hsz:∀(a:Act) (d:Option Tmp) (v:Value),41<a.tmps.size->41<(a.put d v).tmps.size:=λa d v h=>by rw[size_put];exact h
 have q1':=hsz a1 (some 31) ur h42;refine wp_seq ?_;rw[r50_eq];dsimp only[kk50,q1,q2,Tryz.f50];refine wp_region_lit ?_;refine wl_load (.tmp 3) ev3 hrun ?_;refine wl_call1 (.tmp 31) (Y4 h42 (by decide) _) eg161 k161 λe w2 ⟨vp,he2,S2,hB2,hS12,hnew2,hlt2,hrp⟩=>⟨vp,he2,?_⟩
 obtain⟨ad,_,rfl,_⟩:=RV.dp hrp;have hB12:w1.heap.size<=w2.heap.size:=hB2.size;obtain⟨gb,go,gcap,ga,gc,rfl,hgb,hcell,hints⟩:=groups_at hr1 hR2.lt h.pos;have hg2:GlobOK EE S2 w2:=hR2.glob.mono hS12 (λb hb=>hB2.block b (hR2.lt b hb))
 have hk171:=calls171 (H:=Unit) w2 (some ad) gb go gcap gs (bstP p) ga gc (λj hj=>(Ao (a:=⟨gb,go+j,none⟩) (hB2.block gb hgb)).trans (hcell j hj)) (by omega) (by have:=h.len;omega)
  (λj hj=>by have:=Q5 (Ag hj);have:=h.sum;omega)
  (λk=>AQ (zJM _) (AQ (Nat.pow_le_pow_right (show 0<2 by omega) (show JJ (gs.take k).reverse<=8 by
   rw[zBj];exact AQ (zDM gs k) h.sum)) (by decide)))
  (λk m v hm=>by
   have h1:=zJQ (Y:=30000000000000000) (by omega) (gs.take k).reverse (λg hg k e he=>bstP_bnd hok (by
    rw[qF];have:=Q5 (List.mem_of_mem_take (List.mem_reverse.1 hg));have:=h.sum;omega) k e he) m v hm
   have h2:JJ (gs.take k).reverse<=8:=by rw[zBj];exact AQ (zDM gs k) h.sum
   have h3:(gs.take k).reverse.length<=30:=by rw[List.length_reverse,Bt];have:=h.len;omega
   have h4:((gs.take k).reverse.length:Int) * 30000000000000000<=30 * 30000000000000000:=Int.mul_le_mul_of_nonneg_right (by omega) (by omega)
   omega)
  (λj hj h0=>by
   obtain⟨b,o,e1,e2,e3⟩:=hints j hj h0;exact⟨b,o,e1,by omega,λi hi=>(Ao (a:=⟨b,o+i,none⟩) (hB2.block b e2)).trans (e3 i hi)⟩)
  (λW j hj oa oc k hBW hrow hk=>by
   have hgm:=Ag hj;have hmem:∀x∈JH gs[j],0<=x/\x<p.ps.length:=λx hx=>h.idx _ hgm x (by unfold JH at hx;exact(List.mem_mergeSort).1 hx)
   have hnn:((JH gs[j]).map Ac).map (B7:Nat->Int)=JH gs[j]:=by
    rw[Bn]
    conv=>rhs;rw[<-List.map_id (JH gs[j])]
    exact Ar λx hx=>by have:=hmem x hx;show((x.toNat:Nat):Int)=x;omega
   have hl8:gs[j].length<=8:=by have:=Q5 hgm;have:=h.sum;omega
   exact best_at hE hok hrp hg2 hlt2 (Al _) W ((JH gs[j]).map Ac) oa gs[j].length oc k hBW (by rw[Ab,qF]) (by rw[hnn];exact hrow) (by omega) (by rw[Ab,qF];omega) (λi hi=>by
    obtain⟨x,hx,rfl⟩:=Aq.1 hi;have:=hmem x hx;omega))
 have q2':=hsz _ (some 32) (.pointer (some ad)) q1';refine zHn (.tmp 1) ((jz _ (by decide) _).trans ((jz _ (by decide) _).trans ev1)) ?_
 have q3:=hsz _ (some 33) (.slice (some ⟨gb,go,none⟩) gs.length gcap) q2';refine wl_call2 (.tmp 32) (.tmp 33) ((jz _ (by decide) _).trans (Y4 q1' (by decide) _)) (Y4 q2' (by decide) _) eg171 hk171 λe w3 ⟨b,nn,D,he3,hown,hA,hB3⟩=>⟨_,he3,?_⟩
 have q4:=hsz _ (some 34) (.map (some b)) q3;refine zHn (.tmp 2) ((jz _ (by decide) _).trans ((jz _ (by decide) _).trans ((jz _ (by decide) _).trans ((jz _ (by decide) _).trans ev2)))) ?_
 have q5:=hsz _ (some 35) (.int .i64 n) q4;have hnr:=zJI h.n;have h8:=hok.l;have zeroE:∀w,(zeroValue 3).run Tryz.prog w=.ok (.int .i64 0) w:=λw=>by kernel_rfl
 refine wpList_lookup_own_ok_int w3 rfl (.tmp 34) (.tmp 35) 278 rfl 3 3 .i64 law3 Tryz.underlying278 Tryz.underlying3 (zeroE _) b nn D ((jz _ (by decide) _).trans (Y4 q3 (by decide) _)) hown (.int .i64 n) (.int .i64 n) (Y4 q4 (by decide) _)
  (keyOf_int_mk Tryz.underlying3 (Bj (by omega))) λc hat hcw=>?_
 generalize hhb:A7 D (.int .i64 n)=hb;have q6:=hsz _ (some 36) (.tuple #[.int .i64 c,.bool hb]) q5;refine zHn (.tmp 36) (Y4 q5 (by decide) _) ?_
 have q7:=hsz _ (some 30) (.tuple #[.int .i64 c,.bool hb]) q6;refine zEE (.tmp 30) 0 (v:=.int .i64 c) (Y4 q6 (by decide) _) rfl ?_
 have q8:=hsz _ (some 37) (.int .i64 c) q7;refine zEE (.tmp 30) 1 (v:=.bool hb) ((jz _ (by decide) _).trans (Y4 q6 (by decide) _)) rfl ?_
 have q9:=hsz _ (some 38) (.bool hb) q8;refine zGg (.tmp 37) ((jz _ (by decide) _).trans (Y4 q7 (by decide) _)) ?_
 have q10:=hsz _ (some 10) (.int .i64 c) q9;refine zGg (.tmp 38) ((jz _ (by decide) _).trans (Y4 q8 (by decide) _)) ?_
 refine wpList_nil ?_;have hB13:Below w1.heap.size w1 w3:=hB2.trans (hB3.mono hB12);have hbase:=hR2.base;have hG3:Grow w.heap.size S1 S1 w1 w3:=⟨hB13.mono hbase,λ_ h=>h,λ_ h=>.inl h,λb hb=>hB13.block b (hR2.lt b hb)⟩
 have hR3:Rel EE w.heap.size S1 φ1 (zr 42 [] []) a1 w3:=hRe.world hG3 (λb hb=>BU (hR2.lt b hb) hB13.size) (λ_ _ h=>h) (λb hb=>hB13.block b hb)
 have hR4:=((((((((hR3.und (t:=31) (by omega) ur).und (t:=32) (by omega) (.pointer (some ad))).und (t:=33) (by omega) (.slice (some ⟨gb,go,none⟩) gs.length gcap)).und (t:=34) (by omega) (.map (some b))).und (t:=35) (by omega) (.int .i64 n)).und (t:=36) (by omega) (.tuple #[.int .i64 c,.bool hb])).und (t:=30) (by omega) (.tuple #[.int .i64 c,.bool hb])).und (t:=37) (by omega) (.int .i64 c)).und (t:=38) (by omega) (.bool hb)
 have hR5:=(hR4.put (some 10) (v:=.d (eI c)) (u:=.int .i64 c) (RV.mkInt _ _)).put (some 11) (v:=.d (.bool hb)) (u:=.bool hb) (RV.mkBool _);have hst:(⟨j5 (j5 (zr 42 [] []).tm (some 10) (.d (eI c))) (some 11) (.d (.bool hb)),(zr 42 [] []).hp⟩:St)=zr 42 [(10,.d (.int .i64 c)),(11,.d (.bool hb))] []:=by kernel_rfl
 have hR6:Rel EE w.heap.size S1 φ1 (zr 42 [(10,.d (.int .i64 c)),(11,.d (.bool hb))] []) _ w3:=hst ▸ hR5;have hval:r=.val (.tup [eI (if hb then c else 0),eI (if hb then 0 else 24)]):=by rw[<-hr];have h1:=(hA n).symm.trans (zEg hat);rw[hhb] at h1;unfold YQ;rw[h1];cases hb <;> rfl
 obtain⟨M,ht⟩:=tail50 c hb;rw[<-hval] at ht;refine YE hD JK hc (sq2 k50t) ht hR6 λex st' S2 φ2 a2 w2 j1 j2 j3=>?_
 obtain⟨r0,k4,k5⟩:=zA j1;injection k5 with k5
 cases ex with
 | exit i=>simp[zEf] at k4
 | normal =>
  obtain⟨h1,v,h2,h3⟩:=Jz hD j2 ((hG1.trans hG3).trans j3) (show fin EE (EE.fresh 50) (JI EE 50) st'=some r0 from k4)
  exact⟨h1,v,h2,v,rfl,k5 ▸ QL h3⟩
 | ret =>
  obtain⟨h1,v,h2,h3⟩:=Jz hD j2 ((hG1.trans hG3).trans j3) (show fin EE (EE.fresh 50) (JI EE 50) st'=some r0 from k4)
  exact⟨h1,v,h2,v,rfl,k5 ▸ QL h3⟩
end
end Go.Am
namespace Go.Am
open Go.Proofs
open Go
variable[OO]
def s200(j i n:Nat)(ru:ByteArray)(d wd ps:List DV)(sec x y:Int)(r0:DV)(z:Int)(row:List DV):St :=
 (zr 47 [(3,(.d (.dp (.agg 0 [(.str ru),(.sl 1 d),(.sl 1 wd)])))),(4,(.d (.dp (.sl 2 ps)))),(5,(.d (.dp (.agg 9 [(.int .i64 sec),(.agg 1 [(.int .i64 x),(.int .i64 y)])])))),(7,(.ptr 7 1 0 [])),(8,(.d (.int .i64 ((j:Nat):Int)))),(9,(.d (.int .i64 ((i:Nat):Int)))),(26,(.own 19 0 n 1)),(27,(.d (.int .i64 ((j:Nat):Int)))),(28,(.ptr 19 1 j [])),(29,(.own 20 0 n 1)),(30,(.d (.int .i64 ((i:Nat):Int)))),(31,(.d (.agg 0 [(.str ru),(.sl 1 d),(.sl 1 wd)]))),(32,(.d (.agg 9 [(.int .i64 sec),(.agg 1 [(.int .i64 x),(.int .i64 y)])]))),(33,(.d (.sl 2 ps))),(34,(.d (.int .i64 ((i:Nat):Int)))),(35,(.d (.dp (nth ps (Ac ((i:Nat):Int)))))),(36,(.d (.agg 1 [(.int .i64 (zC (nth (flds (nth ps (Ac ((i:Nat):Int)))) 0))),(.int .i64 (zC (nth (flds (nth ps (Ac ((i:Nat):Int)))) 1)))]))),(37,(.d (.sl 2 ps))),(38,(.d (.int .i64 ((j:Nat):Int)))),(39,(.d (.dp (nth ps j)))),(40,(.d (.agg 1 [(.int .i64 (zC (nth (flds (nth ps j)) 0))),(.int .i64 (zC (nth (flds (nth ps j)) 1)))]))),(41,(.d (.tup [(.int .i64 (zC (nth (tups r0) 0))),(.int .i64 (zC (nth (tups r0) 1)))]))),(42,(.d (.int .i64 (zC (nth (tups r0) 0))))),(43,(.d (.int .i64 (zC (nth (tups r0) 1))))),(44,(.d (.int .i64 z))),(45,(.ptr 20 1 (0+(Ac ((i:Nat):Int))) []))] [(7,(.mk true (.ac 1 [(.own 19 0 n 1)]))),(19,(.mk true (.ac 1 (Af j .undef++[.own 20 0 n 1])))),(20,(.mk false (.dc 1 (Bg row (0+(Ac ((i:Nat):Int))) (.int .i64 z)))))])
noncomputable def X200(g:Nat->St->Option CR)(j i n:Nat)(ru:ByteArray)(d wd ps:List DV)(sec x y:Int)(row:List DV):Option CR :=
 ifO (decide (((0:Int)<=((j:Nat):Int))/\(((j:Nat):Int)<((n:Nat):Int))))
 (ifO (decide (((0:Int)<=((i:Nat):Int))/\(((i:Nat):Int)<(((Aa ps):Nat):Int))))
 (ifO (zF EE 6 141 (nth ps (Ac ((i:Nat):Int))))
 (ifO (decide (((0:Int)<=((j:Nat):Int))/\(((j:Nat):Int)<(((Aa ps):Nat):Int))))
 (ifO (zF EE 6 141 (nth ps j))
 (zH (zB 185 [(.agg 9 [(.int .i64 sec),(.agg 1 [(.int .i64 x),(.int .i64 y)])]),(.agg 1 [(.int .i64 (zC (nth (flds (nth ps (Ac ((i:Nat):Int)))) 0))),(.int .i64 (zC (nth (flds (nth ps (Ac ((i:Nat):Int)))) 1)))]),(.agg 1 [(.int .i64 (zC (nth (flds (nth ps j)) 0))),(.int .i64 (zC (nth (flds (nth ps j)) 1)))])])
 (λr0=>ifO ((DV.isTup r0) && (zV (zF EE 6) [3,3] (tups r0)))
 (zH (zB 186 [(.agg 0 [(.str ru),(.sl 1 d),(.sl 1 wd)]),(.int .i64 (zC (nth (tups r0) 0))),(.int .i64 (zC (nth (tups r0) 1)))])
 (λr1=>ifO (zF EE 6 3 r1)
 (ifO (decide (((0:Int)<=((i:Nat):Int))/\(((i:Nat):Int)<((n:Nat):Int))))
 (ifO (decide ((0+(Ac ((i:Nat):Int)))<(Aa row)))
 (g 0 (s200 j i n ru d wd ps sec x y r0 (zC r1) row))
 (none))
 (none))
 (none))
 (λ_ _=>none))
 (none))
 (λ_ _=>none))
 (none))
 (none))
 (none))
 (none))
 (none)
theorem p200c_run(g:Nat->St->Option CR)(i n:Nat)(ru:ByteArray)(d wd ps:List DV)(sec x y:Int)(row:List DV):∀(j:Nat) (_:j<64),run zB g (p200c j i n ru d wd ps sec x y row)=X200 g j i n ru d wd ps sec x y row
 | 0,_=>by kernel_rfl
 | 1,_=>by kernel_rfl
 | 2,_=>by kernel_rfl
 | 3,_=>by kernel_rfl
 | 4,_=>by kernel_rfl
 | 5,_=>by kernel_rfl
 | 6,_=>by kernel_rfl
 | 7,_=>by kernel_rfl
 | 8,_=>by kernel_rfl
 | 9,_=>by kernel_rfl
 | 10,_=>by kernel_rfl
 | 11,_=>by kernel_rfl
 | 12,_=>by kernel_rfl
 | 13,_=>by kernel_rfl
 | 14,_=>by kernel_rfl
 | 15,_=>by kernel_rfl
 | 16,_=>by kernel_rfl
 | 17,_=>by kernel_rfl
 | 18,_=>by kernel_rfl
 | 19,_=>by kernel_rfl
 | 20,_=>by kernel_rfl
 | 21,_=>by kernel_rfl
 | 22,_=>by kernel_rfl
 | 23,_=>by kernel_rfl
 | 24,_=>by kernel_rfl
 | 25,_=>by kernel_rfl
 | 26,_=>by kernel_rfl
 | 27,_=>by kernel_rfl
 | 28,_=>by kernel_rfl
 | 29,_=>by kernel_rfl
 | 30,_=>by kernel_rfl
 | 31,_=>by kernel_rfl
 | 32,_=>by kernel_rfl
 | 33,_=>by kernel_rfl
 | 34,_=>by kernel_rfl
 | 35,_=>by kernel_rfl
 | 36,_=>by kernel_rfl
 | 37,_=>by kernel_rfl
 | 38,_=>by kernel_rfl
 | 39,_=>by kernel_rfl
 | 40,_=>by kernel_rfl
 | 41,_=>by kernel_rfl
 | 42,_=>by kernel_rfl
 | 43,_=>by kernel_rfl
 | 44,_=>by kernel_rfl
 | 45,_=>by kernel_rfl
 | 46,_=>by kernel_rfl
 | 47,_=>by kernel_rfl
 | 48,_=>by kernel_rfl
 | 49,_=>by kernel_rfl
 | 50,_=>by kernel_rfl
 | 51,_=>by kernel_rfl
 | 52,_=>by kernel_rfl
 | 53,_=>by kernel_rfl
 | 54,_=>by kernel_rfl
 | 55,_=>by kernel_rfl
 | 56,_=>by kernel_rfl
 | 57,_=>by kernel_rfl
 | 58,_=>by kernel_rfl
 | 59,_=>by kernel_rfl
 | 60,_=>by kernel_rfl
 | 61,_=>by kernel_rfl
 | 62,_=>by kernel_rfl
 | 63,_=>by kernel_rfl
 | j+64,h=>absurd h (by omega)
theorem f200(i n:Nat)(ru:ByteArray)(d wd ps:List DV)(sec x y:Int)(r0:DV)(z:Int)(row:List DV):∀(j:Nat) (_:j<64),(⟨stTm 47 0 [(7,.ptr 7 1 0 [])],hp200 j n (Bg row (0+i) (.int .i64 z))⟩:St)=forget [7] (s200 j i n ru d wd ps sec x y r0 z row)
 | 0,_=>by kernel_rfl
 | 1,_=>by kernel_rfl
 | 2,_=>by kernel_rfl
 | 3,_=>by kernel_rfl
 | 4,_=>by kernel_rfl
 | 5,_=>by kernel_rfl
 | 6,_=>by kernel_rfl
 | 7,_=>by kernel_rfl
 | 8,_=>by kernel_rfl
 | 9,_=>by kernel_rfl
 | 10,_=>by kernel_rfl
 | 11,_=>by kernel_rfl
 | 12,_=>by kernel_rfl
 | 13,_=>by kernel_rfl
 | 14,_=>by kernel_rfl
 | 15,_=>by kernel_rfl
 | 16,_=>by kernel_rfl
 | 17,_=>by kernel_rfl
 | 18,_=>by kernel_rfl
 | 19,_=>by kernel_rfl
 | 20,_=>by kernel_rfl
 | 21,_=>by kernel_rfl
 | 22,_=>by kernel_rfl
 | 23,_=>by kernel_rfl
 | 24,_=>by kernel_rfl
 | 25,_=>by kernel_rfl
 | 26,_=>by kernel_rfl
 | 27,_=>by kernel_rfl
 | 28,_=>by kernel_rfl
 | 29,_=>by kernel_rfl
 | 30,_=>by kernel_rfl
 | 31,_=>by kernel_rfl
 | 32,_=>by kernel_rfl
 | 33,_=>by kernel_rfl
 | 34,_=>by kernel_rfl
 | 35,_=>by kernel_rfl
 | 36,_=>by kernel_rfl
 | 37,_=>by kernel_rfl
 | 38,_=>by kernel_rfl
 | 39,_=>by kernel_rfl
 | 40,_=>by kernel_rfl
 | 41,_=>by kernel_rfl
 | 42,_=>by kernel_rfl
 | 43,_=>by kernel_rfl
 | 44,_=>by kernel_rfl
 | 45,_=>by kernel_rfl
 | 46,_=>by kernel_rfl
 | 47,_=>by kernel_rfl
 | 48,_=>by kernel_rfl
 | 49,_=>by kernel_rfl
 | 50,_=>by kernel_rfl
 | 51,_=>by kernel_rfl
 | 52,_=>by kernel_rfl
 | 53,_=>by kernel_rfl
 | 54,_=>by kernel_rfl
 | 55,_=>by kernel_rfl
 | 56,_=>by kernel_rfl
 | 57,_=>by kernel_rfl
 | 58,_=>by kernel_rfl
 | 59,_=>by kernel_rfl
 | 60,_=>by kernel_rfl
 | 61,_=>by kernel_rfl
 | 62,_=>by kernel_rfl
 | 63,_=>by kernel_rfl
 | j+64,h=>absurd h (by omega)
end Go.Am
namespace Go.Am
open Go.Proofs
open Go
variable[OO]
theorem C241(x0:DV):zB 241 [x0] =
 ifO (zV (zF EE 6) [3] [x0])
 (some (.val (.fn 282 [] [(.dp (eI (zC x0)))])))
 (none) :=
 (zM (f:=241) (by kernel_rfl) (by kernel_rfl) (by kernel_rfl) [x0]).trans (by kernel_rfl)
end Go.Am
namespace Go.Am
open Go.Proofs
open Go
variable[OO]
def s161(j i:Nat)(x n:Int)(ps:List DV)(least:Int)(ru:ByteArray)(d wd pw:List DV)(cut:Int)(rs ns:List DV):St :=
 (zr 50 [(1,(.ptr 1 415 0 [])),(3,(.ptr 3 1 0 [])),(4,(.d (.int .i64 ((j:Nat):Int)))),(5,(.d (.int .i64 ((i:Nat):Int)))),(6,(.ptr 6 3 0 [])),(20,(.d (.fn 282 [] [(.dp (.int .i64 n))]))),(21,(.d (.int .i64 ((j:Nat):Int)))),(22,(.d (.int .i64 ((i:Nat):Int)))),(23,(.ptr 1 415 0 [(.mk 6 1)])),(24,(.d (.int .i64 least))),(25,(.ptr 1 415 0 [(.mk 6 0)])),(26,(.d (.sl 2 ps))),(27,(.d (.int .i64 ((i:Nat):Int)))),(28,(.d (.dp (nth ps i)))),(29,(.d (.agg 1 [(.int .i64 (zC (nth (flds (nth ps i)) 0))),(.int .i64 (zC (nth (flds (nth ps i)) 1)))]))),(30,(.d (.agg 9 [(.str (bs [97])),(.agg 1 [(.int .i64 (zC (nth (flds (nth ps i)) 0))),(.int .i64 (zC (nth (flds (nth ps i)) 1)))])]))),(31,(.ptr 1 415 0 [(.mk 6 0)])),(32,(.d (.sl 2 ps))),(33,(.d (.int .i64 ((j:Nat):Int)))),(34,(.d (.dp (nth ps j)))),(35,(.d (.agg 1 [(.int .i64 (zC (nth (flds (nth ps j)) 0))),(.int .i64 (zC (nth (flds (nth ps j)) 1)))]))),(36,(.d (.agg 9 [(.str (bs [98])),(.agg 1 [(.int .i64 (zC (nth (flds (nth ps j)) 0))),(.int .i64 (zC (nth (flds (nth ps j)) 1)))])]))),(37,(.own 37 0 2 3)),(38,(.agg 0 [(.d (.str (bs [112,108,97,110]))),(.d (.int .i64 least)),(.own 37 0 2 3)])),(39,(.ptr 16 892 0 [])),(40,(.d (.int .i64 ((j:Nat):Int)))),(41,(.d (.int .i64 ((i:Nat):Int)))),(42,(.agg 0 [(.d (.str (bs [112,108,97,110]))),(.d (.int .i64 least)),(.own 37 0 2 3)])),(43,(.d (.int .i64 (x)))),(44,(.d (.bool (bne (x) 0)))),(45,(.ptr 16 892 0 [])),(46,(.ptr 16 892 0 [(.mk 16 2)])),(47,(.ptr 16 892 0 [(.mk 16 2),(.mk 15 j)])),(48,(.ptr 16 892 0 [(.mk 16 2),(.mk 15 j),(.mk 14 i)]))] [(1,(.mk false (.dc 415 [(.agg 6 [(.sl 2 ps),(.int .i64 least),(.agg 0 [(.str ru),(.sl 1 d),(.sl 1 wd)]),(.agg 1 [(.sl 1 pw),(.int .i64 cut)]),(.agg 3 rs)])]))),(3,(.mk false (.ac 1 [(.ptr 16 892 0 [])]))),(6,(.mk false (.ac 3 [(.agg 0 [(.d (.str (bs [112,108,97,110]))),(.d (.int .i64 least)),(.own 37 0 2 3)])]))),(16,(.mk false (.dc 892 [(.agg 16 [(.agg 6 [(.sl 2 ps),(.int .i64 least),(.agg 0 [(.str ru),(.sl 1 d),(.sl 1 wd)]),(.agg 1 [(.sl 1 pw),(.int .i64 cut)]),(.agg 3 rs)]),(.agg 13 [(.agg 0 [(.str ru),(.sl 1 d),(.sl 1 wd)]),(.agg 1 [(.sl 1 pw),(.int .i64 cut)]),(.agg 3 rs)]),(.agg 15 (Bg ns j (.agg 14 (Bg (flds (nth ns j)) i (.bool (bne (x) 0))))))])]))),(37,(.mk false (.dc 3 [(.agg 9 [(.str (bs [97])),(.agg 1 [(.int .i64 (zC (nth (flds (nth ps i)) 0))),(.int .i64 (zC (nth (flds (nth ps i)) 1)))])]),(.agg 9 [(.str (bs [98])),(.agg 1 [(.int .i64 (zC (nth (flds (nth ps j)) 0))),(.int .i64 (zC (nth (flds (nth ps j)) 1)))])])])))])
theorem p161c_run(g:Nat->St->Option CR)(n:Int)(ps:List DV)(least:Int)(ru:ByteArray)(d wd pw:List DV)(cut:Int)(rs ns:List DV):∀(j i:Nat) (_:j<8) (_:i<8),run zB g (p161c j i n ps least ru d wd pw cut rs ns) =
 ifO (decide (((0:Int)<=((i:Nat):Int))/\(((i:Nat):Int)<(((Aa ps):Nat):Int))))
 (ifO (zF EE 6 141 (nth ps i))
 (ifO (decide (((0:Int)<=((j:Nat):Int))/\(((j:Nat):Int)<(((Aa ps):Nat):Int))))
 (ifO (zF EE 6 141 (nth ps j))
 (zH (zB 158 [(.agg 0 [(.str (bs [112,108,97,110])),(.int .i64 least),(.sl 3 [(.agg 9 [(.str (bs [97])),(.agg 1 [(.int .i64 (zC (nth (flds (nth ps i)) 0))),(.int .i64 (zC (nth (flds (nth ps i)) 1)))])]),(.agg 9 [(.str (bs [98])),(.agg 1 [(.int .i64 (zC (nth (flds (nth ps j)) 0))),(.int .i64 (zC (nth (flds (nth ps j)) 1)))])])])])])
 (λr0=>ifO (zF EE 6 46 r0)
 (ifO (jK 15 j (.agg 15 ns))
 (ifO (jK 14 i (nth ns j))
 (g 0 (s161 j i (zC r0) n ps least ru d wd pw cut rs ns))
 (none))
 (none))
 (none))
 (λ_ _=>none))
 (none))
 (none))
 (none))
 (none)
 | 0,0,_,_=>by kernel_rfl
 | 0,1,_,_=>by kernel_rfl
 | 0,2,_,_=>by kernel_rfl
 | 0,3,_,_=>by kernel_rfl
 | 0,4,_,_=>by kernel_rfl
 | 0,5,_,_=>by kernel_rfl
 | 0,6,_,_=>by kernel_rfl
 | 0,7,_,_=>by kernel_rfl
 | 1,0,_,_=>by kernel_rfl
 | 1,1,_,_=>by kernel_rfl
 | 1,2,_,_=>by kernel_rfl
 | 1,3,_,_=>by kernel_rfl
 | 1,4,_,_=>by kernel_rfl
 | 1,5,_,_=>by kernel_rfl
 | 1,6,_,_=>by kernel_rfl
 | 1,7,_,_=>by kernel_rfl
 | 2,0,_,_=>by kernel_rfl
 | 2,1,_,_=>by kernel_rfl
 | 2,2,_,_=>by kernel_rfl
 | 2,3,_,_=>by kernel_rfl
 | 2,4,_,_=>by kernel_rfl
 | 2,5,_,_=>by kernel_rfl
 | 2,6,_,_=>by kernel_rfl
 | 2,7,_,_=>by kernel_rfl
 | 3,0,_,_=>by kernel_rfl
 | 3,1,_,_=>by kernel_rfl
 | 3,2,_,_=>by kernel_rfl
 | 3,3,_,_=>by kernel_rfl
 | 3,4,_,_=>by kernel_rfl
 | 3,5,_,_=>by kernel_rfl
 | 3,6,_,_=>by kernel_rfl
 | 3,7,_,_=>by kernel_rfl
 | 4,0,_,_=>by kernel_rfl
 | 4,1,_,_=>by kernel_rfl
 | 4,2,_,_=>by kernel_rfl
 | 4,3,_,_=>by kernel_rfl
 | 4,4,_,_=>by kernel_rfl
 | 4,5,_,_=>by kernel_rfl
 | 4,6,_,_=>by kernel_rfl
 | 4,7,_,_=>by kernel_rfl
 | 5,0,_,_=>by kernel_rfl
 | 5,1,_,_=>by kernel_rfl
 | 5,2,_,_=>by kernel_rfl
 | 5,3,_,_=>by kernel_rfl
 | 5,4,_,_=>by kernel_rfl
 | 5,5,_,_=>by kernel_rfl
 | 5,6,_,_=>by kernel_rfl
 | 5,7,_,_=>by kernel_rfl
 | 6,0,_,_=>by kernel_rfl
 | 6,1,_,_=>by kernel_rfl
 | 6,2,_,_=>by kernel_rfl
 | 6,3,_,_=>by kernel_rfl
 | 6,4,_,_=>by kernel_rfl
 | 6,5,_,_=>by kernel_rfl
 | 6,6,_,_=>by kernel_rfl
 | 6,7,_,_=>by kernel_rfl
 | 7,0,_,_=>by kernel_rfl
 | 7,1,_,_=>by kernel_rfl
 | 7,2,_,_=>by kernel_rfl
 | 7,3,_,_=>by kernel_rfl
 | 7,4,_,_=>by kernel_rfl
 | 7,5,_,_=>by kernel_rfl
 | 7,6,_,_=>by kernel_rfl
 | 7,7,_,_=>by kernel_rfl
 | j+8,_,h,_=>absurd h (by omega)
 | 0,i+8,_,h=>absurd h (by omega)
 | 1,i+8,_,h=>absurd h (by omega)
 | 2,i+8,_,h=>absurd h (by omega)
 | 3,i+8,_,h=>absurd h (by omega)
 | 4,i+8,_,h=>absurd h (by omega)
 | 5,i+8,_,h=>absurd h (by omega)
 | 6,i+8,_,h=>absurd h (by omega)
 | 7,i+8,_,h=>absurd h (by omega)
set_option linter.unusedVariables false in
theorem p161a_run(g:Nat->St->Option CR)(ps:List DV)(least:Int)(ru:ByteArray)(d wd pw:List DV)(cut:Int)(rs:List DV):run (zB) g (p161a ps least ru d wd pw cut rs) =
 zH (zB 241 [(.int .i64 (((Aa ps):Nat):Int))])
 (λr0=>ifO (zF EE 6 359 r0)
 ((g 0 (zr 50 [(0,(.d (.agg 6 [(.sl 2 ps),(.int .i64 least),(.agg 0 [(.str ru),(.sl 1 d),(.sl 1 wd)]),(.agg 1 [(.sl 1 pw),(.int .i64 cut)]),(.agg 3 rs)]))),(1,(.ptr 1 415 0 [])),(2,(.d .nilPtr)),(3,(.ptr 3 1 0 [])),(7,(.d (.agg 6 [(.sl 2 ps),(.int .i64 least),(.agg 0 [(.str ru),(.sl 1 d),(.sl 1 wd)]),(.agg 1 [(.sl 1 pw),(.int .i64 cut)]),(.agg 3 rs)]))),(8,(.ptr 1 415 0 [(.mk 6 2)])),(9,(.d (.agg 0 [(.str ru),(.sl 1 d),(.sl 1 wd)]))),(10,(.ptr 1 415 0 [(.mk 6 3)])),(11,(.d (.agg 1 [(.sl 1 pw),(.int .i64 cut)]))),(12,(.ptr 1 415 0 [(.mk 6 4)])),(13,(.d (.agg 3 rs))),(14,(.d (.agg 13 [(.agg 0 [(.str ru),(.sl 1 d),(.sl 1 wd)]),(.agg 1 [(.sl 1 pw),(.int .i64 cut)]),(.agg 3 rs)]))),(15,(.d (.agg 16 [(.agg 6 [(.sl 2 ps),(.int .i64 least),(.agg 0 [(.str ru),(.sl 1 d),(.sl 1 wd)]),(.agg 1 [(.sl 1 pw),(.int .i64 cut)]),(.agg 3 rs)]),(.agg 13 [(.agg 0 [(.str ru),(.sl 1 d),(.sl 1 wd)]),(.agg 1 [(.sl 1 pw),(.int .i64 cut)]),(.agg 3 rs)]),(.agg 15 [(.agg 14 [(.bool false),(.bool false),(.bool false),(.bool false),(.bool false),(.bool false),(.bool false),(.bool false)]),(.agg 14 [(.bool false),(.bool false),(.bool false),(.bool false),(.bool false),(.bool false),(.bool false),(.bool false)]),(.agg 14 [(.bool false),(.bool false),(.bool false),(.bool false),(.bool false),(.bool false),(.bool false),(.bool false)]),(.agg 14 [(.bool false),(.bool false),(.bool false),(.bool false),(.bool false),(.bool false),(.bool false),(.bool false)]),(.agg 14 [(.bool false),(.bool false),(.bool false),(.bool false),(.bool false),(.bool false),(.bool false),(.bool false)]),(.agg 14 [(.bool false),(.bool false),(.bool false),(.bool false),(.bool false),(.bool false),(.bool false),(.bool false)]),(.agg 14 [(.bool false),(.bool false),(.bool false),(.bool false),(.bool false),(.bool false),(.bool false),(.bool false)]),(.agg 14 [(.bool false),(.bool false),(.bool false),(.bool false),(.bool false),(.bool false),(.bool false),(.bool false)])])]))),(16,(.ptr 16 892 0 [])),(17,(.ptr 1 415 0 [(.mk 6 0)])),(18,(.d (.sl 2 ps))),(19,(.d (.int .i64 (((Aa ps):Nat):Int)))),(20,(.d (.fn (zDz r0) (fnA r0) (fnC r0))))] [(1,(.mk false (.dc 415 [(.agg 6 [(.sl 2 ps),(.int .i64 least),(.agg 0 [(.str ru),(.sl 1 d),(.sl 1 wd)]),(.agg 1 [(.sl 1 pw),(.int .i64 cut)]),(.agg 3 rs)])]))),(3,(.mk false (.ac 1 [(.ptr 16 892 0 [])]))),(16,(.mk false (.dc 892 [(.agg 16 [(.agg 6 [(.sl 2 ps),(.int .i64 least),(.agg 0 [(.str ru),(.sl 1 d),(.sl 1 wd)]),(.agg 1 [(.sl 1 pw),(.int .i64 cut)]),(.agg 3 rs)]),(.agg 13 [(.agg 0 [(.str ru),(.sl 1 d),(.sl 1 wd)]),(.agg 1 [(.sl 1 pw),(.int .i64 cut)]),(.agg 3 rs)]),(.agg 15 [(.agg 14 [(.bool false),(.bool false),(.bool false),(.bool false),(.bool false),(.bool false),(.bool false),(.bool false)]),(.agg 14 [(.bool false),(.bool false),(.bool false),(.bool false),(.bool false),(.bool false),(.bool false),(.bool false)]),(.agg 14 [(.bool false),(.bool false),(.bool false),(.bool false),(.bool false),(.bool false),(.bool false),(.bool false)]),(.agg 14 [(.bool false),(.bool false),(.bool false),(.bool false),(.bool false),(.bool false),(.bool false),(.bool false)]),(.agg 14 [(.bool false),(.bool false),(.bool false),(.bool false),(.bool false),(.bool false),(.bool false),(.bool false)]),(.agg 14 [(.bool false),(.bool false),(.bool false),(.bool false),(.bool false),(.bool false),(.bool false),(.bool false)]),(.agg 14 [(.bool false),(.bool false),(.bool false),(.bool false),(.bool false),(.bool false),(.bool false),(.bool false)]),(.agg 14 [(.bool false),(.bool false),(.bool false),(.bool false),(.bool false),(.bool false),(.bool false),(.bool false)])])])])))])))
 (none))
 (λ_ _=>none):=by kernel_rfl
end Go.Am
namespace Go.Am
open Go.Proofs
open Go Go.RowKit
theorem zA3{n a b:Int}(h1:a<=n)(h2:n<=b):zf n a b=0:=if_neg (by omega)
theorem sites2{a b:Pt}{least:Int}(ha:JP a)(hb:JP b)(h1:1<=least)(h2:least<=1000) :
  jM ⟨bs [112,108,97,110],least,[⟨bs [97],a⟩,⟨bs [98],b⟩]⟩=if jQ b a<least * least then 15 else 0:=by
 have n1:jJ (bs [112,108,97,110])=true:=by kernel_rfl
 have n2:jJ (bs [97])=true:=by kernel_rfl
 have n3:jJ (bs [98])=true:=by kernel_rfl
 have pa:ptE a=0:=by obtain⟨x1,x2,x3,x4⟩:=ha;unfold ptE;rw[zA3 x1 x2,zA3 x3 x4];rfl
 have pb:ptE b=0:=by obtain⟨x1,x2,x3,x4⟩:=hb;unfold ptE;rw[zA3 x1 x2,zA3 x3 x4];rfl
 have hr:zf least 1 1000=0:=by unfold zf;rw[if_neg (by omega)]
 have hm:YB (bs [98]) [bs [97]]=false:=by kernel_rfl
 have hm0:YB (bs [97]) []=false:=rfl;simp[jM,jY,n1,n2,n3,pa,pb,hr,zT,hm,hm0]
def nbP(p:Pn)(k j i:Nat):Bool:=decide ((j,i)∈(jI p.ps.length).take k) && jP p j i
def nsP(p:Pn)(k:Nat):List DV:=(Aj 8).map λj=>.agg 14 ((Aj 8).map λi=>.bool (nbP p k j i))
theorem nsP_step(p:Pn)(k j i:Nat)(h:(jI p.ps.length)[k]? = some (j,i))(hj:j<8)(hi:i<8) :
  Bg (nsP p k) j (.agg 14 (Bg (flds (nth (nsP p k) j)) i (.bool (jP p j i))))=nsP p (k+1):=by
 have hb:∀a b,nbP p (k+1) a b=if a=j/\b=i then jP p j i else nbP p k a b:=by
  intro a b;unfold nbP;rw[Bf,h];by_cases hab:a=j/\b=i
  ·obtain⟨rfl,rfl⟩:=hab;simp
  ·rw[if_neg hab];have:((a,b):Nat×Nat)≠(j,i):=by simpa using hab
   simp[this]
 have hn:nth (nsP p k) j=.agg 14 ((Aj 8).map λi=>.bool (nbP p k j i)):=by
  unfold nsP;rw[zO _ _ _ (by simpa using hj)]
  simp
 rw[hn];unfold nsP;refine Ax (by simp) λa h1 h2=>?_
 have ha:a<8:=by simpa using h2
 rw[A8];split
 ·rename_i e;subst e;simp only[At,Aw,zQ];congr 1;refine Ax (by simp) λb h3 h4=>?_
  rw[A8];split
  ·rename_i e;subst e;simp[hb]
  ·rename_i e;simp only[At,Aw,hb];rw[if_neg (by rintro⟨_,rfl⟩;exact e rfl)]
 ·rename_i e;simp only[At,Aw];congr 1;refine Ar λb _=>?_
  rw[hb,if_neg (by rintro⟨rfl,_⟩;exact e rfl)]
theorem zET{n j i:Nat}(hj:j<n)(hi:i<n)(hne:i≠j):(j,i)∈jI n:=by unfold jI zA2 zDw;simp only[List.mem_flatMap,List.mem_range',Aq,List.mem_filter];exact⟨j,⟨j,by omega,by omega⟩,i,⟨⟨i,by omega,by omega⟩,by simpa using hne⟩,rfl⟩
theorem nsP_end(p:Pn):.agg 15 (nsP p (jI p.ps.length).length)=eNear p:=by
 unfold nsP;congr 1;refine Ar λj _=>?_
 congr 1;refine Ar λi _=>?_
 congr 1;unfold nbP;rw[AJ];by_cases h:jP p j i=true
 ·rw[h];unfold jP at h;simp only[Bool.and_eq_true,decide_eq_true_eq] at h;simp[zET h.1.2.1 h.1.1 h.1.2.2]
 ·simp only[Bool.not_eq_true] at h;simp[h]
theorem nsP_zero(p:Pn):nsP p 0=Af 8 (.agg 14 (Af 8 (.bool false))):=by unfold nsP nbP;simp[AT,Af]
def hpP(p:Pn)(k:Nat):List (Option OB):=hp161 (p.ps.map ePt) p.least p.w.rule (p.w.d.map eI) (p.w.w.map eI) (p.c.p.map eI) p.c.cut (p.r.map jC) (nsP p k)
def zGc(c:Code)(k:Nat):Array Edge:=match c with
 | .region _ ops _=>match ops[k]? with | some o=>o.after | none=>#[]
 | _=>#[]
def zAV(c:Code)(k:Nat):String:=match c with
 | .region _ ops _=>match ops[k]? with | some o=>o.pos | none=>""
 | _=>""
section
variable[OO]
theorem a161(p:Pn):run zB (gT (Le [] ⟨tm161 p.ps.length,hpP p 0⟩)) (pcX 161 k161a (entry Tryz.f161 [ePn p]))=some (.val .nl):=by
 refine(show run zB (gT (Le [] ⟨tm161 p.ps.length,hpP p 0⟩)) (pcX 161 k161a (entry Tryz.f161 [ePn p])) =
  run zB (gT (Le [] ⟨tm161 p.ps.length,hpP p 0⟩)) (p161a (p.ps.map ePt) p.least p.w.rule (p.w.d.map eI) (p.w.w.map eI) (p.c.p.map eI) p.c.cut (p.r.map jC)) by kernel_rfl).trans ?_
 rw[p161a_run,C241,Ab];rw[show zV (zF EE 6) [3] [(.int .i64 (p.ps.length:Int))]=true by kernel_rfl]
 simp only[zD,zJ,zI];rw[show zF EE 6 359 (.fn 282 [] [.dp (.int .i64 (p.ps.length:Int))])=true by kernel_rfl,zD]
 refine zId ?_;rw[show(⟨tm161 p.ps.length,hpP p 0⟩:St)=forget [1,3,20] _ from ?_]
 ·exact Jf _ _
 ·unfold hpP;rw[nsP_zero];kernel_rfl
theorem b161(p:Pn)(hq:∀q∈p.ps,JP q)(h1:1<=p.least)(h2:p.least<=1000)(hl:p.ps.length<=8)(k j i:Nat)(hk:(jI p.ps.length)[k]? = some (j,i)) :
  run zB (gT (Le [] ⟨tm161 p.ps.length,hpP p (k+1)⟩)) (pcX 161 k161b ⟨rd161 p.ps.length j i,hpP p k⟩)=some (.val .nl):=by
 obtain⟨hj,hi,hne⟩:=zC5 (List.mem_of_getElem? hk);simp only at hj hi hne;have hj8:j<8:=by omega
 have hi8:i<8:=by omega
 show run zB (gT _) (p161c j i p.ps.length (p.ps.map ePt) p.least p.w.rule (p.w.d.map eI) (p.w.w.map eI) (p.c.p.map eI) p.c.cut (p.r.map jC) (nsP p k))=_;rw[p161c_run _ _ _ _ _ _ _ _ _ _ _ j i hj8 hi8,Ab];have e1:∀a (h:a<p.ps.length),nth (p.ps.map ePt) a=ePt p.ps[a]:=λa h=>zO ePt p.ps a h
 rw[e1 i hi,e1 j hj];have c1:((0:Int)<=((i:Nat):Int))/\(((i:Nat):Int)<((p.ps.length:Nat):Int)):=by omega
 have c2:((0:Int)<=((j:Nat):Int))/\(((j:Nat):Int)<((p.ps.length:Nat):Int)):=by omega
 have hh:∀q:Pt,zF EE 6 141 (ePt q)=true:=λq=>by kernel_rfl
 simp only[decide_eq_true c1,decide_eq_true c2,hh,zD];have ec:zB 158 [(.agg 0 [(.str (bs [112,108,97,110])),(.int .i64 p.least),(.sl 3 [(.agg 9 [(.str (bs [97])),(.agg 1 [(.int .i64 (zC (nth (flds (ePt p.ps[i])) 0))),(.int .i64 (zC (nth (flds (ePt p.ps[i])) 1)))])]),
   (.agg 9 [(.str (bs [98])),(.agg 1 [(.int .i64 (zC (nth (flds (ePt p.ps[j])) 0))),(.int .i64 (zC (nth (flds (ePt p.ps[j])) 1)))])])])])] =
   some (.val (eI (if jQ p.ps[j] p.ps[i]<p.least * p.least then 15 else 0))):=by
  rw[<-sites2 (hq _ (Ag hi)) (hq _ (Ag hj)) h1 h2];exact c158 ⟨bs [112,108,97,110],p.least,[⟨bs [97],p.ps[i]⟩,⟨bs [98],p.ps[j]⟩]⟩
 rw[ec];simp only[zJ,zI];rw[show ∀x:Int,zF EE 6 46 (eI x)=true from λx=>by kernel_rfl,zD]
 rw[show jK 15 j (.agg 15 (nsP p k))=true by unfold jK nsP;simp;omega,zD]
 have hn:nth (nsP p k) j=.agg 14 ((Aj 8).map λi=>.bool (nbP p k j i)):=by
  unfold nsP;rw[zO _ _ _ (by simpa using hj8)]
  simp
 rw[show jK 14 i (nth (nsP p k) j)=true by rw[hn];unfold jK;simp;omega,zD]
 refine zId ?_;have hx:(bne (if jQ p.ps[j] p.ps[i]<p.least * p.least then (15:Int) else 0) 0)=jP p j i:=by
  unfold jP;rw[decide_eq_true ⟨hi,hj,λe=>hne e.symm⟩]
  have e2:jQ (p.ps.getD i default) (p.ps.getD j default)=jQ p.ps[j] p.ps[i]:=by simp only[An,Ah hi,Ah hj,Ap,jQ];rw[show(p.ps[i].x - p.ps[j].x)=-(p.ps[j].x - p.ps[i].x) by omega,show(p.ps[i].y - p.ps[j].y)=-(p.ps[j].y - p.ps[i].y) by omega,B2,B2]
  rw[e2];split
  ·rename_i h;simp[h]
  ·rename_i h;simp[h]
 have hs:=nsP_step p k j i hk hj8 hi8;rw[<-hx] at hs;rw[show(⟨tm161 p.ps.length,hpP p (k+1)⟩:St)=forget [1,3,20] _ from ?_]
 ·exact Jf _ _
 ·unfold hpP;rw[<-hs];kernel_rfl
end
end Go.Am
namespace Go.Am
open Go.Proofs
open Go Go.RowKit
def T161(ds:List DV)(r:CR):Prop:=∃p:Pn,zu p.r/\p.ps.length<=8/\(∀q∈p.ps,JP q)/\1<=p.least/\p.least<=1000/\ds=[ePn p]/\r=.val (.dp (eSe p))
noncomputable def k161g:Code:=match k161r with | .rangeFunc _ _ a _=>a | c=>c
noncomputable def k161y:Code:=sq2 (sq2 (sq2 k161))
theorem glob_nz:∀g x,EE.glob g=some x->nz EE.L (.dp x)=true:=by
 intro g x h;have:EE.glob g=if g=1 then some zGB else none:=rfl
 rw[this] at h;split at h
 ·injection h with h;have e:nz EE.L (.dp zGB)=true:=by kernel_rfl
  exact h ▸ e
 ·cases h
theorem nz_pt(q:Pt):nz EE.L (ePt q)=true:=by kernel_rfl
theorem nz_ints(l:List Int):nzL EE.L (l.map eI)=true:=zBM λx hx=>by obtain⟨m,_,rfl⟩:=Aq.1 hx;rfl
theorem nz_pts(l:List Pt):nzL EE.L (l.map ePt)=true:=zBM λx hx=>by obtain⟨m,_,rfl⟩:=Aq.1 hx;exact nz_pt m
theorem nz_rows(l:List (List Int)):nzL EE.L (l.map jC)=true:=zBM λx hx=>by obtain⟨m,_,rfl⟩:=Aq.1 hx;exact nz_ints m
theorem nz_ns(p:Pn)(k:Nat):nzL EE.L (nsP p k)=true:=zBM λx hx=>by obtain⟨m,_,rfl⟩:=Aq.1 hx;show nzL EE.L _=true;exact zBM λy hy=>by obtain⟨m,_,rfl⟩:=Aq.1 hy;rfl
theorem nz_hp(p:Pn)(k:Nat):(hpP p k).all (nzB EE.L)=true:=by
 have e:(hpP p k).all (nzB EE.L)=(nzL EE.L [dPn (p.ps.map ePt) p.least p.w.rule (p.w.d.map eI) (p.w.w.map eI) (p.c.p.map eI) p.c.cut (p.r.map jC)] &&
   nzL EE.L [dSe (p.ps.map ePt) p.least p.w.rule (p.w.d.map eI) (p.w.w.map eI) (p.c.p.map eI) p.c.cut (p.r.map jC) (nsP p k)]):=by
  unfold hpP;generalize nsP p k=ns;unfold hp161;simp only[stHp,List.all_cons,List.all_nil,nzB,zJS,nzV,Bool.true_and,Bool.and_true]
 rw[e];simp[nzL,nz,nz_ints,nz_pts,nz_rows,nz_ns]
set_option maxRecDepth 100000 in
theorem body161:∃i1 i2 s1 s2 i3 s3 s4 af1 af2,Tryz.f161.body=some (.seq (sq1 k161) (.seq (sq1 (sq2 k161)) (.seq (.seq (sq1 (sq1 (sq2 (sq2 k161)))) (.block 0 (.rangeFunc (.tmp 20) #[21,22] (asgC i1 i2 4 5 21 22 3 s1 s2) k161b)))
  (.seq (.region i3 #[{ dst:=some 49,op:=.load 268 (.tmp 3),type:=268,pos:=s3,after:=af1,guard:=none },{ dst:=some 2,op:=.assign (.tmp 49),type:=268,pos:=s4,after:=af2,guard:=none }] false) .ret)))) :=
 ⟨3,4,zAV (sq1 k161g) 0,zAV (sq2 k161g) 0,7,zAV (sq1 k161y) 0,zAV (sq1 k161y) 1,#[],#[{ on:=0,ground:=.data },{ on:=0,ground:=.phase }],by kernel_rfl⟩
theorem len161(n:Int):(tm161 n).length=50:=by kernel_rfl
def D161:List Nat:=[4,5,6]++List.range' 21 28
theorem dead161(n:Int):∀i∈D161,(tm161 n)[i]? = some .undef\/(tm161 n)[i]? = none:=by
 have h:D161.all (λi=>match (tm161 n)[i]? with | some .undef=>true | none=>true | _=>false)=true:=by kernel_rfl
 intro i hi;have:=List.all_eq_true.1 h i hi;revert this;cases (tm161 n)[i]? with
 | none=>intro _;exact .inr rfl
 | some v=>cases v <;> simp
theorem loopGuard(n:Nat)(h:n<=8):(n:Int)<9223372036854775807:=by omega
set_option maxHeartbeats 1000000 in
theorem at161[OO](hE:EnvOKo PP EE OO.o)(ds:List DV)(r:CR):T161 ds r->qM PP EE 161 ds r:=by
 rintro⟨p,hr,hl,hq,h1,h2,rfl,rfl⟩;refine⟨enters Tryz.func161 (by kernel_rfl) (by kernel_rfl),λS w vals hg hlt hlen hv=>?_⟩
 obtain⟨i1,i2,s1,s2,i3,s3,s4,af1,af2,hb⟩:=body161;refine(callsIn_wide (n:=0)).1 (callsIn_of_wp_marks Tryz.func161 hb trivial (wpIn_wide.2 ?_));have hc:JC PP EE (j6 EE zB):=zAz (jo hE XX);have hD:DOK PP EE:=QE _ _ _;have hR0:=zDF (E:=EE) (fn:=Tryz.f161) hg hlt hlen (show[ePn p].length<=Tryz.f161.ntmps by simp) hv
 have hA:=zHr (M:=1) (Al 1) (show z7 k161a=0 by kernel_rfl) (a161 p)
 refine exec_pre3 hD JK hc (t:=⟨tm161 p.ps.length,hpP p 0⟩) hA hR0 λS1 φ1 a1 w1 hR1 hG1=>?_
 refine wp_block (wpIn_wide.1 (wp_pairs (n:=p.ps.length) (M:=1) (tm:=tm161 p.ps.length) hD hc (hpP p) hR1 (loopGuard _ hl) (by kernel_rfl) glob_nz (by kernel_rfl) (by kernel_rfl) (λk _=>nz_hp p k) D161 (dead161 _)
  (by decide) (by decide) (by decide) (by rw[len161];decide) (by kernel_rfl) (by kernel_rfl) (λk q hk=>zHr (Al 1) (by kernel_rfl) (b161 p hq h1 h2 hl k q.1 q.2 hk)) λS2 φ2 W hR2 hG2 hn2 hd2=>?_))
 have hw1:w.heap.size<=w1.heap.size:=hG1.below.size;show(Code.seq _ Code.ret).wp PP _ _ W;refine tail_wp (fn:=Tryz.f161) (x:=.ptr 16 892 0 []) (fresh:=false) (v:=.ptr 3 1 0 []) (w0:=w) (S0:=S) hD hR2 (hG1.trans hG2) hd2 hn2 hw1 (by kernel_rfl) (by kernel_rfl) ?_ (by rw[len161];decide)
 have e:fin EE false Tryz.f161 ⟨j5 (j5 (tm161 p.ps.length) (some 49) (AV.ptr 16 892 0 [])) (some 2) (AV.ptr 16 892 0 []),hpP p (jI p.ps.length).length⟩ =
   some (.val (.dp (.agg 16 [ePn p,eMd p.w p.c p.r,.agg 15 (nsP p (jI p.ps.length).length)]))):=by
  unfold hpP;generalize nsP p (jI p.ps.length).length=ns;kernel_rfl
 exact e.trans (by rw[nsP_end])
end Go.Am
namespace Go.Am
open Go.Proofs
open Go Go.RowKit
def T200(ds:List DV)(r:CR):Prop:=∃(w:Wk) (ps:List Pt) (sec:Int) (st:Pt),w.w.length=w.d.length/\w.d.length<=32/\ps.length<=64/\(∀p∈ps,JP p)/\zBG st/\ds=[eWk w,.sl 2 (ps.map ePt),eWd sec st] /\
 r=.val (.sl 1 ((wakesP w ps sec st).map λr=>.sl 1 (r.map eI)))
def wakeAt(w:Wk)(ps:List Pt)(sec:Int)(st:Pt)(j i:Nat):Int:=zGV w sec st (ps.getD i default) (ps.getD j default)
def zAd(w:Wk)(ps:List Pt)(sec:Int)(st:Pt)(k j:Nat):List Int:=(Aj ps.length).map λi=>if (j,i)∈(jI ps.length).take k then wakeAt w ps sec st j i else 0
theorem zFs(w:Wk)(ps:List Pt)(sec:Int)(st:Pt)(k j:Nat):(zAd w ps sec st k j).length=ps.length:=by simp[zAd]
theorem rowK_zero(w:Wk)(ps:List Pt)(sec:Int)(st:Pt)(j:Nat):zAd w ps sec st 0 j=Af ps.length 0:=by unfold zAd;refine Ax (by simp) λi h1 h2=>by simp
theorem rowK_end(w:Wk)(ps:List Pt)(sec:Int)(st:Pt)(j:Nat)(hj:j<ps.length):zAd w ps sec st (jI ps.length).length j=jk w ps sec st j:=by
 unfold zAd jk;rw[AJ];refine Ar λi hi=>?_
 have hi':=B1.1 hi;by_cases h:i=j
 ·subst h;rw[if_pos rfl,if_neg];intro hm;exact(zC5 hm).2.2 rfl
 ·rw[if_neg h,if_pos (zET hj hi' h)];rfl
theorem rowK_step(w:Wk)(ps:List Pt)(sec:Int)(st:Pt)(k j i:Nat)(h:(jI ps.length)[k]? = some (j,i)):zAd w ps sec st (k+1) j=(zAd w ps sec st k j).set i (wakeAt w ps sec st j i):=by
 unfold zAd;rw[Bf,h];refine Ax (by simp) λa h1 h2=>?_
 rw[A8];simp only[At,Aw];by_cases e:i=a
 ·subst e;simp
 ·rw[if_neg e];have:¬((j,a)=(j,i)):=by simpa using λh=>e h.symm
  simp[this,Ne.symm e]
theorem rowK_other(w:Wk)(ps:List Pt)(sec:Int)(st:Pt)(k j i b:Nat)(h:(jI ps.length)[k]? = some (j,i))(hb:b≠j):zAd w ps sec st (k+1) b=zAd w ps sec st k b:=by
 unfold zAd;rw[Bf,h];refine Ar λa _=>?_
 have:¬((b,a)=(j,i)):=by simpa using λh=>absurd h hb
 simp[hb]
section
variable[OO]
theorem b200(w:Wk)(ps:List Pt)(sec:Int)(st:Pt)(hw:w.w.length=w.d.length)(hd:w.d.length<=32)(hp:ps.length<=64)(hq:∀p∈ps,JP p)(hs:zBG st)(row:List Int)(hrow:row.length=ps.length)(j i:Nat)(hj:j<ps.length)(hi:i<ps.length) :
  run zB (gT (Le [] ⟨stTm 47 0 [(7,.ptr 7 1 0 [])],hp200 j ps.length ((row.set i (wakeAt w ps sec st j i)).map eI)⟩)) (pcX 200 k200b ⟨rd200 j i w.rule (w.d.map eI) (w.w.map eI) (ps.map ePt) sec st.x st.y,hp200 j ps.length (row.map eI)⟩)=some (.val .nl):=by
 show run zB (gT _) (p200c j i ps.length w.rule (w.d.map eI) (w.w.map eI) (ps.map ePt) sec st.x st.y (row.map eI))=_;rw[p200c_run _ i ps.length _ _ _ _ _ _ _ _ j (by omega)]
 unfold X200;rw[Ab,Ai,zO ePt ps i hi,zO ePt ps j hj];have hh:∀q:Pt,zF EE 6 141 (ePt q)=true:=λq=>by kernel_rfl
 rw[decide_eq_true (show((0:Int)<=((j:Nat):Int))/\(((j:Nat):Int)<((ps.length:Nat):Int)) by omega),decide_eq_true (show((0:Int)<=((i:Nat):Int))/\(((i:Nat):Int)<((ps.length:Nat):Int)) by omega)]
 simp only[zD,hh];have e1:zB 185 [(.agg 9 [(.int .i64 sec),(.agg 1 [(.int .i64 st.x),(.int .i64 st.y)])]),(.agg 1 [(.int .i64 (zC (nth (flds (ePt ps[i])) 0))),(.int .i64 (zC (nth (flds (ePt ps[i])) 1)))]),(.agg 1 [(.int .i64 (zC (nth (flds (ePt ps[j])) 0))),(.int .i64 (zC (nth (flds (ePt ps[j])) 1)))])] =
   some (.val (.tup [eI (Y8 sec st ps[i] ps[j]).1,eI (Y8 sec st ps[i] ps[j]).2])):=c185 sec st ps[i] ps[j] hs (hq _ (Ag hi)) (hq _ (Ag hj))
 rw[e1];simp only[zJ];rw[show ∀a b:Int,(DV.isTup (.tup [eI a,eI b]) && zV (zF EE 6) [3,3] (tups (.tup [eI a,eI b])))=true from λa b=>by kernel_rfl,zD]
 have e2:zB 186 [(.agg 0 [(.str w.rule),(.sl 1 (w.d.map eI)),(.sl 1 (w.w.map eI))]),(.int .i64 (zC (nth (tups (.tup [eI (Y8 sec st ps[i] ps[j]).1,eI (Y8 sec st ps[i] ps[j]).2])) 0))),(.int .i64 (zC (nth (tups (.tup [eI (Y8 sec st ps[i] ps[j]).1,eI (Y8 sec st ps[i] ps[j]).2])) 1)))] =
   some (.val (eI (wakeAt w ps sec st j i))):=by
  have:=c186 w (Y8 sec st ps[i] ps[j]).1 (Y8 sec st ps[i] ps[j]).2 hw (by omega)
  refine this.trans ?_;unfold wakeAt zGV;simp only[An,Ah hi,Ah hj,Ap]
 rw[e2];simp only[zJ];rw[show ∀a:Int,zF EE 6 3 (eI a)=true from λa=>by kernel_rfl,zD,decide_eq_true (show 0+i<(row.map eI).length by rw[Ab,hrow];omega),zD]
 refine zId ?_;have hst:Bg (row.map eI) (0+i) (eI (wakeAt w ps sec st j i))=(row.set i (wakeAt w ps sec st j i)).map eI:=by rw[AK,List.map_set]
 rw[<-hst,f200 i ps.length w.rule (w.d.map eI) (w.w.map eI) (ps.map ePt) sec st.x st.y (.tup [eI (Y8 sec st ps[i] ps[j]).1,eI (Y8 sec st ps[i] ps[j]).2]) (wakeAt w ps sec st j i) (row.map eI) j (by omega)]
 exact Jf _ _
end
end Go.Am
