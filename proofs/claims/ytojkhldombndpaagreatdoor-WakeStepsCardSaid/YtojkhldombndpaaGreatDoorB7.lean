/- The abstract machine, the contracts of the functions that are walked by hand, and the examples of the document. Part 7. -/
import Derived.Test.YtojkhldombndpaaGreatDoorB6
set_option linter.all false
namespace Go.Am
open Go.Proofs
open Go Go.RowKit Go.Sort Go.Proofs
def lexR(key:Nat->Int)(a b:Nat):Prop:=key a<key b\/key a=key b/\a<b
theorem orderR_lex(key:Nat->Int):∀n,(zz key n).Pairwise (lexR key)
 | 0=>.nil
 | n+1=>by
  have ih:=orderR_lex key n;have hs:=zAu key n;have hm:=λa=>orderR_mem' key n a
  rw[zz];generalize zz key n=out at ih hs hm;obtain⟨hp,h2,h3⟩:=zAf key out n out.length (Nat.le_refl _);unfold insR;generalize posR key out n out.length=p at hp h2 h3 ⊢;have hlow:∀a,a<p->key (out.getD a 0)<=key n:=by
   intro a ha;have h0:=h3 (by omega)
   by_cases e:a=p - 1
   ·rw[e];exact h0
   ·exact Int.le_trans (hs a (p - 1) (by omega) (by omega)) h0
  have hA:∀x∈out.take p,key x<=key n/\x<n:=by
   intro x hx;obtain⟨i,hi,rfl⟩:=List.mem_iff_getElem.1 hx;have hi':i<p/\i<out.length:=by simp at hi;omega
   have:=hlow i hi'.1;rw[getD_nat hi'.2] at this;rw[List.getElem_take];exact⟨this,(hm _).1 (List.getElem_mem _)⟩
  have hB:∀x∈out.drop p,key n<key x:=by
   intro x hx;obtain⟨i,hi,rfl⟩:=List.mem_iff_getElem.1 hx;have hi':p+i<out.length:=by simp at hi;omega
   have:=h2 (p+i) (by omega) hi'
   rw[getD_nat hi'] at this
   rwa [List.getElem_drop]
  have hAB:(out.take p++out.drop p).Pairwise (lexR key):=by rw[List.take_append_drop];exact ih
  rw[List.pairwise_append] at hAB;rw[List.append_assoc,List.pairwise_append];refine⟨hAB.1,?_,?_⟩
  ·rw[List.singleton_append,List.pairwise_cons];exact⟨λx hx=>.inl (hB x hx),hAB.2.1⟩
  ·intro a ha b hb;rw[List.singleton_append,List.mem_cons] at hb;rcases hb with rfl | hb
   ·obtain⟨h1,h2⟩:=hA a ha;rcases Int.lt_or_eq_of_le h1 with h | h
    ·exact .inl h
    ·exact .inr ⟨h,h2⟩
   ·exact hAB.2.2 a ha b hb
def cfP(p q:Pt):Int:=orZ (cmpZ p.x q.x) (cmpZ p.y q.y)
theorem cfP_lt(p q:Pt):ltOf cfP p q=true ↔ (p.x<q.x\/p.x=q.x/\p.y<q.y):=by unfold ltOf cfP orZ cmpZ;rw[decide_eq_true_eq];split <;> split <;> (try split) <;> (try split) <;> omega
theorem cfP_lt'(p q:Pt):ltOf cfP p q=false ↔ ¬(p.x<q.x\/p.x=q.x/\p.y<q.y):=by rw[<-cfP_lt,Bool.not_eq_true]
theorem cfP_swo:SWO (ltOf cfP) where
 irrefl x:=(cfP_lt' x x).2 (by omega)
 trans x y z h1 h2:=by rw[cfP_lt] at *;omega
 ntrans x y z h1 h2:=by rw[cfP_lt'] at *;omega
theorem cfP_total(x y:Pt)(h1:ltOf cfP x y=false)(h2:ltOf cfP y x=false):x=y:=by rw[cfP_lt'] at h1 h2;obtain⟨a,b⟩:=x;obtain⟨c,d⟩:=y;simp only at h1 h2;rw[Pt.mk.injEq];omega
def plP(key:Nat->Int)(i:Nat):Pt:=⟨key i,i⟩
theorem order_sorts(key:Nat->Int)(n:Nat):(((List.range n).map (plP key)).mergeSort λx y=>!(ltOf cfP) y x)=(zz key n).map (plP key):=by
 have h:=sorted_unique_holds (lt:=ltOf cfP) cfP_swo cfP_total ((List.range n).map (plP key)).toArray ((zz key n).map (plP key)).toArray ?_ ?_
 ·simpa using h.symm
 ·refine⟨by simp[JH],λi hi=>?_,?_⟩
  ·have:n<=i:=by simpa using hi
   simp[JH,this]
  ·have:=(qJ key n).map (plP key);have e1:=List.take_of_length_le (i:=n) (l:=(zz key n).map (plP key)) (by simp[JH])
   have e2:=List.take_of_length_le (i:=n) (l:=(List.range n).map (plP key)) (by simp)
   simpa[Array.extract_size,e1,e2] using this
 ·intro i j h1 h2 h3;have hj:j<(zz key n).length:=by rw[JH];simpa using h3
  have hi:i<(zz key n).length:=by omega
  have hl:=(List.pairwise_iff_getElem.1 (orderR_lex key n)) i j hi hj h2;have e:∀k (h:k<(zz key n).length),((zz key n).map (plP key)).toArray[k]! = plP key (zz key n)[k]:=λk h=>by simp[h]
  rw[e j hj,e i hi,cfP_lt'];unfold lexR at hl;simp only[plP];omega
end Go.Am
namespace Go.Am
open Go.Proofs
open Go
def seqs:List Code->Code->Code
 | [],t=>t
 | c :: cs,t=>.seq c (seqs cs t)
noncomputable def k68:Code:=J7 EE 68
noncomputable def cs68:List Code:=[sq1 k68,sq1 (sq2 k68),sq1 (sq2 (sq2 k68)),sq1 (sq2 (sq2 (sq2 k68))),sq1 (sq2 (sq2 (sq2 (sq2 k68)))),sq1 (sq2 (sq2 (sq2 (sq2 (sq2 k68)))))]
noncomputable def k68t:Code:=sq2 (sq2 (sq2 (sq2 (sq2 (sq2 k68)))))
noncomputable def K68(e:Ex)(st:St):Tr:=match e with
 | .normal=>.goto 900 st
 | e=>endX EE (EE.fresh 68) (fnOf EE 68) e st
noncomputable def k68a:Code:=seqs cs68 .skip
noncomputable def a68(s sec:DV):Tr:=entryX EE (XX.fx 68) (fnOf EE 68) [s,sec] λst=>Ju EE XX (XX.fx 68) k68a 0 0 st K68
abbrev dWd(sec x y:Int):DV:=.agg 9 [.int .i64 sec,.agg 1 [.int .i64 x,.int .i64 y]]
noncomputable def l68(sec x y:Int)(tb l:List DV)(v27 v28:Int):Tr:=JZ EE XX (XX.fx 68) 0 k68a 0 0 K68
 (stOf 47 [(7,.ptr 7 3 0 []),(9,.own 41 0 l.length 2),(26,.d (.sl 3 tb)),(27,.d (.int .i64 v27)),(28,.d (.int .i64 v28))] [(7,⟨false,.dc 3 [dWd sec x y]⟩),(41,⟨false,.dc 2 l⟩)])
noncomputable def z68(sec x y:Int)(tb:List DV)(v27 v28:Int):Tr:=JZ EE XX (XX.fx 68) 0 k68a 0 0 K68
 (stOf 47 [(7,.ptr 7 3 0 []),(9,.d .nl),(26,.d (.sl 3 tb)),(27,.d (.int .i64 v27)),(28,.d (.int .i64 v28))] [(7,⟨false,.dc 3 [dWd sec x y]⟩)])
noncomputable def t68(l:List DV):Tr:=Ju EE XX (XX.fx 68) (sq2 k68t) 0 0 (stOf 47 [(9,.own 41 0 l.length 2)] [(41,⟨false,.dc 2 l⟩)]) (endX EE (EE.fresh 68) (fnOf EE 68))
noncomputable def u68:Tr:=Ju EE XX (XX.fx 68) (sq2 k68t) 0 0 (stOf 47 [(9,.d .nl)] []) (endX EE (EE.fresh 68) (fnOf EE 68))
end Go.Am
namespace Go.Am
open Go.Proofs
open Go Go.RowKit
open Classical
section
variable{call:FuncId->List DV->Option CR}{head:Nat->St->Tr}
noncomputable def goH(call:FuncId->List DV->Option CR)(head:Nat->St->Tr)(j:Nat)(st:St):Option CR :=
 if h:∃n,(goX call head n j st).isSome=true then goX call head h.choose j st else none
theorem goX_up{n m:Nat}(h:n<=m):SubG (goX call head n) (goX call head m):=QP (λ_ _ _ h=>h) _ h
theorem goH_iff{j:Nat}{st:St}{r:CR}:goH call head j st=some r ↔ ∃n,goX call head n j st=some r:=by
 unfold goH;constructor
 ·intro h;split at h
  ·exact⟨_,h⟩
  ·cases h
 ·rintro⟨n,h⟩;have hex:∃n,(goX call head n j st).isSome=true:=⟨n,by rw[h];rfl⟩
  rw[dif_pos hex];obtain⟨r',hr'⟩:=Option.isSome_iff_exists.1 hex.choose_spec;rw[hr'];rcases Nat.le_total n hex.choose with k | k
  ·have:=goX_up k _ _ _ h;rw[hr'] at this;exact this
  ·have:=goX_up k _ _ _ hr';rw[h] at this;exact this.symm
theorem run_limH{r:CR}:∀t:Tr,run call (goH call head) t=some r->∃n,run call (goX call head n) t=some r:=by
 intro t;induction t with
 | fail=>intro h;simp[run] at h
 | ret r'=>intro h;exact⟨0,h⟩
 | ifB b t e iht ihe =>
  intro h;rcases QE h with ⟨rfl,h⟩ | ⟨rfl,h⟩
  ·exact iht h
  ·exact ihe h
 | call g a kv kf ihv ihf =>
  intro h;rcases QF h with ⟨x,h1,h⟩ | ⟨s,xs,h1,h⟩
  ·obtain⟨m,hm⟩:=ihv x h;exact⟨m,by simp only[run,h1,zC];exact hm⟩
  ·obtain⟨m,hm⟩:=ihf s xs h;exact⟨m,by simp only[run,h1,zC];exact hm⟩
 | goto j st=>intro h;exact goH_iff.1 h
theorem goH_eq(j:Nat)(st:St):goH call head j st=run call (goH call head) (head j st):=by
 apply opt_ext;intro r;constructor
 ·intro h;obtain⟨n,h⟩:=goH_iff.1 h;cases n with
  | zero=>simp[goX] at h
  | succ n=>exact YF (λ_ _ _ h=>h) (λ_ _ _ h=>goH_iff.2 ⟨n,h⟩) _ h
 ·intro h;obtain⟨n,h⟩:=run_limH _ h;exact goH_iff.2 ⟨n+1,h⟩
theorem Qt{E:Env}{X:XC}{F:XF}{c:Code}{st:St}{Kx:Ex->St->Tr}{K:Ex->St->Option CR}{r:CR}(hn:z7 c<=1000)(hh:∀j,InL c 0 0 j->∀st,head j st=JZ E X F j c 0 0 Kx st)
  (hK:∀p e st,run call (goX call head p) (Kx e st)=some r->K e st=some r) (hm:Mono r K K) (h:run call (goH call head) (Ju E X F c 0 0 st Kx)=some r):∃M,exec E M (jt E call) c st K=some r:=by
 obtain⟨n,hn'⟩:=run_limH _ h;exact⟨n,execX_run c n (Nat.le_refl n) 0 0 (by omega) Kx K hh (λp _ e st h=>hK p e st h) hm n (Nat.le_refl n) st hn'⟩
end
section
variable{P:Program}{E:Env}{call:FuncId->List DV->Option CR}
theorem spine_wp(hD:DOK P E)(hm:P.follows .mixedOrders=true)(hc:jw P E call){n base:Nat}{K:Ex->St->Option CR}{r:CR}{T:Code}{Q:Exit->Act->World->Prop}:∀(cs:List Code) {S:Nat->Prop} {φ:Nat->Option Nat} {st:St} {a:Act} {w:World},
  exec E n call (seqs cs .skip) st K=some r->Rel E base S φ st a w ->
  (∀st' S' φ' a' w',K .normal st'=some r->Rel E base S' φ' st' a' w'->Grow base S S' w w'->T.wp P Q a' w') ->
  (∀ex st' S' φ' a' w',ex≠.normal->K ex st'=some r->Rel E base S' φ' st' a' w'->Grow base S S' w w'->Q (zAn ex) a' w')->(seqs cs T).wp P Q a w
 | [],S,φ,st,a,w,h,hR,hT,_=>hT st S φ a w h hR Grow.refl
 | c :: cs,S,φ,st,a,w,h,hR,hT,hx=>by
  refine wp_seq (J2 hD hm hc c (K:=qm (λst'=>exec E n call (seqs cs .skip) st' K) K) h hR λex st' S' φ' a' w' k1 k2 k3=>?_)
  cases ex with
  | normal=>exact spine_wp hD hm hc cs k1 k2 (λst2 S2 φ2 a2 w2 j1 j2 j3=>hT st2 S2 φ2 a2 w2 j1 j2 (k3.trans j3)) (λex st2 S2 φ2 a2 w2 j0 j1 j2 j3=>hx ex st2 S2 φ2 a2 w2 j0 j1 j2 (k3.trans j3))
  | exit id=>exact hx (.exit id) st' S' φ' a' w' (by simp) k1 k2 k3
  | ret=>exact hx .ret st' S' φ' a' w' (by simp) k1 k2 k3
end
end Go.Am
namespace Go.Am
open Go.Proofs
open Go
variable[OO]
theorem C64(x0 x1 x2 x3:DV):zA 64 [x0,x1,x2,x3] =
 ifO (zP (hasT EE 6) [58,3,3,3] [x0,x1,x2,x3])
 (zC (zA 158 [(.agg 0 [(.str (getS (nth (flds x0) 0))),(eI (getI (nth (flds x0) 1))),(.sl 3 (elems (nth (flds x0) 2)))])])
 (λr0=>ifO (hasT EE 6 46 r0)
 (ifO (bne (getI r0) 0)
 (some (.val (.tup [(eI 0),(eI 0),(eI (getI r0))])))
 (zC (zA 147 [(eI (getI x1))])
 (λr1=>ifO ((DV.isTup r1) && (zP (hasT EE 6) [251,46] (tups r1)))
 (ifO (decide ((getI x2)<(0:Int)))
 (zC (zA 169 [(.bool true),(eI 10)])
 (λr2=>ifO (hasT EE 6 46 r2)
 (ifO (decide ((getI x3)<(0:Int)))
 (zC (zA 169 [(.bool true),(eI 10)])
 (λr3=>ifO (hasT EE 6 46 r3)
 (zC (zA 169 [(.bool ((getI x2) == (getI x3))),(eI 9)])
 (λr4=>ifO (hasT EE 6 46 r4)
 (zC (zA 148 [(.sl 1 [(eI (getI (nth (tups r1) 1))),(eI (getI r2)),(eI (getI r3)),(eI (getI r4))])])
 (λr5=>ifO (hasT EE 6 46 r5)
 (ifO (bne (getI r5) 0)
 (some (.val (.tup [(eI 0),(eI 0),(eI (getI r5))])))
 (ifO (decide (((0:Int)<=(getI x2))/\((getI x2)<(((List.length (elems (nth (flds x0) 2))):Nat):Int))))
 (ifO (isAg 9 1 (nth (elems (nth (flds x0) 2)) (Int.toNat (getI x2))))
 (ifO (hasT EE 6 141 (nth (flds (nth (elems (nth (flds x0) 2)) (Int.toNat (getI x2)))) 1))
 (ifO (decide (((0:Int)<=(getI x3))/\((getI x3)<(((List.length (elems (nth (flds x0) 2))):Nat):Int))))
 (ifO (isAg 9 1 (nth (elems (nth (flds x0) 2)) (Int.toNat (getI x3))))
 (ifO (hasT EE 6 141 (nth (flds (nth (elems (nth (flds x0) 2)) (Int.toNat (getI x3)))) 1))
 (zC (zA 185 [(.agg 9 [(eI (getI (nth (flds (nth (tups r1) 0)) 0))),(.agg 1 [(eI (getI (nth (flds (nth (flds (nth (tups r1) 0)) 1)) 0))),(eI (getI (nth (flds (nth (flds (nth (tups r1) 0)) 1)) 1)))])]),(.agg 1 [(eI (getI (nth (flds (nth (flds (nth (elems (nth (flds x0) 2)) (Int.toNat (getI x2)))) 1)) 0))),(eI (getI (nth (flds (nth (flds (nth (elems (nth (flds x0) 2)) (Int.toNat (getI x2)))) 1)) 1)))]),(.agg 1 [(eI (getI (nth (flds (nth (flds (nth (elems (nth (flds x0) 2)) (Int.toNat (getI x3)))) 1)) 0))),(eI (getI (nth (flds (nth (flds (nth (elems (nth (flds x0) 2)) (Int.toNat (getI x3)))) 1)) 1)))])])
 (λr6=>ifO ((DV.isTup r6) && (zP (hasT EE 6) [3,3] (tups r6)))
 (some (.val (.tup [(eI (getI (nth (tups r6) 0))),(eI (getI (nth (tups r6) 1))),(eI 0)])))
 (none))
 (λ_ _=>none))
 (none))
 (none))
 (none))
 (none))
 (none))
 (none)))
 (none))
 (λ_ _=>none))
 (none))
 (λ_ _=>none))
 (none))
 (λ_ _=>none))
 (zC (zA 169 [(.bool (decide ((getI x3)>=(((List.length (elems (nth (flds x0) 2))):Nat):Int)))),(eI 10)])
 (λr15=>ifO (hasT EE 6 46 r15)
 (zC (zA 169 [(.bool ((getI x2) == (getI x3))),(eI 9)])
 (λr16=>ifO (hasT EE 6 46 r16)
 (zC (zA 148 [(.sl 1 [(eI (getI (nth (tups r1) 1))),(eI (getI r2)),(eI (getI r15)),(eI (getI r16))])])
 (λr17=>ifO (hasT EE 6 46 r17)
 (ifO (bne (getI r17) 0)
 (some (.val (.tup [(eI 0),(eI 0),(eI (getI r17))])))
 (ifO (decide (((0:Int)<=(getI x2))/\((getI x2)<(((List.length (elems (nth (flds x0) 2))):Nat):Int))))
 (ifO (isAg 9 1 (nth (elems (nth (flds x0) 2)) (Int.toNat (getI x2))))
 (ifO (hasT EE 6 141 (nth (flds (nth (elems (nth (flds x0) 2)) (Int.toNat (getI x2)))) 1))
 (ifO (decide (((0:Int)<=(getI x3))/\((getI x3)<(((List.length (elems (nth (flds x0) 2))):Nat):Int))))
 (ifO (isAg 9 1 (nth (elems (nth (flds x0) 2)) (Int.toNat (getI x3))))
 (ifO (hasT EE 6 141 (nth (flds (nth (elems (nth (flds x0) 2)) (Int.toNat (getI x3)))) 1))
 (zC (zA 185 [(.agg 9 [(eI (getI (nth (flds (nth (tups r1) 0)) 0))),(.agg 1 [(eI (getI (nth (flds (nth (flds (nth (tups r1) 0)) 1)) 0))),(eI (getI (nth (flds (nth (flds (nth (tups r1) 0)) 1)) 1)))])]),(.agg 1 [(eI (getI (nth (flds (nth (flds (nth (elems (nth (flds x0) 2)) (Int.toNat (getI x2)))) 1)) 0))),(eI (getI (nth (flds (nth (flds (nth (elems (nth (flds x0) 2)) (Int.toNat (getI x2)))) 1)) 1)))]),(.agg 1 [(eI (getI (nth (flds (nth (flds (nth (elems (nth (flds x0) 2)) (Int.toNat (getI x3)))) 1)) 0))),(eI (getI (nth (flds (nth (flds (nth (elems (nth (flds x0) 2)) (Int.toNat (getI x3)))) 1)) 1)))])])
 (λr18=>ifO ((DV.isTup r18) && (zP (hasT EE 6) [3,3] (tups r18)))
 (some (.val (.tup [(eI (getI (nth (tups r18) 0))),(eI (getI (nth (tups r18) 1))),(eI 0)])))
 (none))
 (λ_ _=>none))
 (none))
 (none))
 (none))
 (none))
 (none))
 (none)))
 (none))
 (λ_ _=>none))
 (none))
 (λ_ _=>none))
 (none))
 (λ_ _=>none)))
 (none))
 (λ_ _=>none))
 (zC (zA 169 [(.bool (decide ((getI x2)>=(((List.length (elems (nth (flds x0) 2))):Nat):Int)))),(eI 10)])
 (λr29=>ifO (hasT EE 6 46 r29)
 (ifO (decide ((getI x3)<(0:Int)))
 (zC (zA 169 [(.bool true),(eI 10)])
 (λr30=>ifO (hasT EE 6 46 r30)
 (zC (zA 169 [(.bool ((getI x2) == (getI x3))),(eI 9)])
 (λr31=>ifO (hasT EE 6 46 r31)
 (zC (zA 148 [(.sl 1 [(eI (getI (nth (tups r1) 1))),(eI (getI r29)),(eI (getI r30)),(eI (getI r31))])])
 (λr32=>ifO (hasT EE 6 46 r32)
 (ifO (bne (getI r32) 0)
 (some (.val (.tup [(eI 0),(eI 0),(eI (getI r32))])))
 (ifO (decide (((0:Int)<=(getI x2))/\((getI x2)<(((List.length (elems (nth (flds x0) 2))):Nat):Int))))
 (ifO (isAg 9 1 (nth (elems (nth (flds x0) 2)) (Int.toNat (getI x2))))
 (ifO (hasT EE 6 141 (nth (flds (nth (elems (nth (flds x0) 2)) (Int.toNat (getI x2)))) 1))
 (ifO (decide (((0:Int)<=(getI x3))/\((getI x3)<(((List.length (elems (nth (flds x0) 2))):Nat):Int))))
 (ifO (isAg 9 1 (nth (elems (nth (flds x0) 2)) (Int.toNat (getI x3))))
 (ifO (hasT EE 6 141 (nth (flds (nth (elems (nth (flds x0) 2)) (Int.toNat (getI x3)))) 1))
 (zC (zA 185 [(.agg 9 [(eI (getI (nth (flds (nth (tups r1) 0)) 0))),(.agg 1 [(eI (getI (nth (flds (nth (flds (nth (tups r1) 0)) 1)) 0))),(eI (getI (nth (flds (nth (flds (nth (tups r1) 0)) 1)) 1)))])]),(.agg 1 [(eI (getI (nth (flds (nth (flds (nth (elems (nth (flds x0) 2)) (Int.toNat (getI x2)))) 1)) 0))),(eI (getI (nth (flds (nth (flds (nth (elems (nth (flds x0) 2)) (Int.toNat (getI x2)))) 1)) 1)))]),(.agg 1 [(eI (getI (nth (flds (nth (flds (nth (elems (nth (flds x0) 2)) (Int.toNat (getI x3)))) 1)) 0))),(eI (getI (nth (flds (nth (flds (nth (elems (nth (flds x0) 2)) (Int.toNat (getI x3)))) 1)) 1)))])])
 (λr33=>ifO ((DV.isTup r33) && (zP (hasT EE 6) [3,3] (tups r33)))
 (some (.val (.tup [(eI (getI (nth (tups r33) 0))),(eI (getI (nth (tups r33) 1))),(eI 0)])))
 (none))
 (λ_ _=>none))
 (none))
 (none))
 (none))
 (none))
 (none))
 (none)))
 (none))
 (λ_ _=>none))
 (none))
 (λ_ _=>none))
 (none))
 (λ_ _=>none))
 (zC (zA 169 [(.bool (decide ((getI x3)>=(((List.length (elems (nth (flds x0) 2))):Nat):Int)))),(eI 10)])
 (λr42=>ifO (hasT EE 6 46 r42)
 (zC (zA 169 [(.bool ((getI x2) == (getI x3))),(eI 9)])
 (λr43=>ifO (hasT EE 6 46 r43)
 (zC (zA 148 [(.sl 1 [(eI (getI (nth (tups r1) 1))),(eI (getI r29)),(eI (getI r42)),(eI (getI r43))])])
 (λr44=>ifO (hasT EE 6 46 r44)
 (ifO (bne (getI r44) 0)
 (some (.val (.tup [(eI 0),(eI 0),(eI (getI r44))])))
 (ifO (decide (((0:Int)<=(getI x2))/\((getI x2)<(((List.length (elems (nth (flds x0) 2))):Nat):Int))))
 (ifO (isAg 9 1 (nth (elems (nth (flds x0) 2)) (Int.toNat (getI x2))))
 (ifO (hasT EE 6 141 (nth (flds (nth (elems (nth (flds x0) 2)) (Int.toNat (getI x2)))) 1))
 (ifO (decide (((0:Int)<=(getI x3))/\((getI x3)<(((List.length (elems (nth (flds x0) 2))):Nat):Int))))
 (ifO (isAg 9 1 (nth (elems (nth (flds x0) 2)) (Int.toNat (getI x3))))
 (ifO (hasT EE 6 141 (nth (flds (nth (elems (nth (flds x0) 2)) (Int.toNat (getI x3)))) 1))
 (zC (zA 185 [(.agg 9 [(eI (getI (nth (flds (nth (tups r1) 0)) 0))),(.agg 1 [(eI (getI (nth (flds (nth (flds (nth (tups r1) 0)) 1)) 0))),(eI (getI (nth (flds (nth (flds (nth (tups r1) 0)) 1)) 1)))])]),(.agg 1 [(eI (getI (nth (flds (nth (flds (nth (elems (nth (flds x0) 2)) (Int.toNat (getI x2)))) 1)) 0))),(eI (getI (nth (flds (nth (flds (nth (elems (nth (flds x0) 2)) (Int.toNat (getI x2)))) 1)) 1)))]),(.agg 1 [(eI (getI (nth (flds (nth (flds (nth (elems (nth (flds x0) 2)) (Int.toNat (getI x3)))) 1)) 0))),(eI (getI (nth (flds (nth (flds (nth (elems (nth (flds x0) 2)) (Int.toNat (getI x3)))) 1)) 1)))])])
 (λr45=>ifO ((DV.isTup r45) && (zP (hasT EE 6) [3,3] (tups r45)))
 (some (.val (.tup [(eI (getI (nth (tups r45) 0))),(eI (getI (nth (tups r45) 1))),(eI 0)])))
 (none))
 (λ_ _=>none))
 (none))
 (none))
 (none))
 (none))
 (none))
 (none)))
 (none))
 (λ_ _=>none))
 (none))
 (λ_ _=>none))
 (none))
 (λ_ _=>none)))
 (none))
 (λ_ _=>none)))
 (none))
 (λ_ _=>none)))
 (none))
 (λ_ _=>none))
 (none) :=
 (zE (f:=64) (by kernel_rfl) (by kernel_rfl) (by kernel_rfl) [x0,x1,x2,x3]).trans (by kernel_rfl)
theorem C77(x0 x1 x2:DV):zA 77 [x0,x1,x2] =
 ifO (zP (hasT EE 6) [58,59,3] [x0,x1,x2])
 (zC (zA 199 [(.agg 0 [(.str (getS (nth (flds x0) 0))),(eI (getI (nth (flds x0) 1))),(.sl 3 (elems (nth (flds x0) 2)))]),(.agg 0 [(.str (getS (nth (flds x1) 0))),(.sl 1 (elems (nth (flds x1) 1))),(.sl 1 (elems (nth (flds x1) 2)))]),(eI (getI x2))])
 (λr0=>ifO ((DV.isTup r0) && (zP (hasT EE 6) [251,46] (tups r0)))
 (ifO (bne (getI (nth (tups r0) 1)) (0:Int))
 (some (.val (.tup [(.sl 1 []),(eI (getI (nth (tups r0) 1)))])))
 (zC (zA 146 [(.agg 0 [(.str (getS (nth (flds x0) 0))),(eI (getI (nth (flds x0) 1))),(.sl 3 (elems (nth (flds x0) 2)))])])
 (λr1=>ifO (hasT EE 6 81 r1)
 (zC (zA 153 [(.agg 0 [(.str (getS (nth (flds x1) 0))),(.sl 1 (elems (nth (flds x1) 1))),(.sl 1 (elems (nth (flds x1) 2)))]),(.sl 2 (elems r1)),(.agg 9 [(eI (getI (nth (flds (nth (tups r0) 0)) 0))),(.agg 1 [(eI (getI (nth (flds (nth (flds (nth (tups r0) 0)) 1)) 0))),(eI (getI (nth (flds (nth (flds (nth (tups r0) 0)) 1)) 1)))])])])
 (λr2=>ifO (hasT EE 6 25 r2)
 (some (.val (.tup [(.sl 1 (elems r2)),(eI 0)])))
 (none))
 (λ_ _=>none))
 (none))
 (λ_ _=>none)))
 (none))
 (λ_ _=>none))
 (none) :=
 (zE (f:=77) (by kernel_rfl) (by kernel_rfl) (by kernel_rfl) [x0,x1,x2]).trans (by kernel_rfl)
theorem C78(x0 x1 x2 x3:DV):zA 78 [x0,x1,x2,x3] =
 ifO (zP (hasT EE 6) [58,59,3,3] [x0,x1,x2,x3])
 (zC (zA 199 [(.agg 0 [(.str (getS (nth (flds x0) 0))),(eI (getI (nth (flds x0) 1))),(.sl 3 (elems (nth (flds x0) 2)))]),(.agg 0 [(.str (getS (nth (flds x1) 0))),(.sl 1 (elems (nth (flds x1) 1))),(.sl 1 (elems (nth (flds x1) 2)))]),(eI (getI x2))])
 (λr0=>ifO ((DV.isTup r0) && (zP (hasT EE 6) [251,46] (tups r0)))
 (zC (zA 149 [(eI (getI x3)),(eI 0),(eI 50)])
 (λr1=>ifO (hasT EE 6 46 r1)
 (zC (zA 148 [(.sl 1 [(eI (getI (nth (tups r0) 1))),(eI (getI r1))])])
 (λr2=>ifO (hasT EE 6 46 r2)
 (ifO (bne (getI r2) 0)
 (some (.val (.tup [(.sl 1 []),(eI (getI r2))])))
 (zC (zA 146 [(.agg 0 [(.str (getS (nth (flds x0) 0))),(eI (getI (nth (flds x0) 1))),(.sl 3 (elems (nth (flds x0) 2)))])])
 (λr3=>ifO (hasT EE 6 81 r3)
 (zC (zA 153 [(.agg 0 [(.str (getS (nth (flds x1) 0))),(.sl 1 (elems (nth (flds x1) 1))),(.sl 1 (elems (nth (flds x1) 2)))]),(.sl 2 (elems r3)),(.agg 9 [(eI (getI (nth (flds (nth (tups r0) 0)) 0))),(.agg 1 [(eI (getI (nth (flds (nth (flds (nth (tups r0) 0)) 1)) 0))),(eI (getI (nth (flds (nth (flds (nth (tups r0) 0)) 1)) 1)))])])])
 (λr4=>ifO (hasT EE 6 25 r4)
 (zC (zA 152 [(.sl 1 (elems r4)),(eI (getI x3))])
 (λr5=>ifO (hasT EE 6 25 r5)
 (some (.val (.tup [(.sl 1 (elems r5)),(eI 0)])))
 (none))
 (λ_ _=>none))
 (none))
 (λ_ _=>none))
 (none))
 (λ_ _=>none)))
 (none))
 (λ_ _=>none))
 (none))
 (λ_ _=>none))
 (none))
 (λ_ _=>none))
 (none) :=
 (zE (f:=78) (by kernel_rfl) (by kernel_rfl) (by kernel_rfl) [x0,x1,x2,x3]).trans (by kernel_rfl)
theorem C32(x0 x1 x2:DV):zA 32 [x0,x1,x2] =
 ifO (zP (hasT EE 6) [62,3,3] [x0,x1,x2])
 (zC (zA 40 [(.agg 4 [(.agg 0 [(.str (getS (nth (flds (nth (flds x0) 0)) 0))),(eI (getI (nth (flds (nth (flds x0) 0)) 1))),(.sl 3 (elems (nth (flds (nth (flds x0) 0)) 2)))]),(.agg 0 [(.str (getS (nth (flds (nth (flds x0) 1)) 0))),(.sl 1 (elems (nth (flds (nth (flds x0) 1)) 1))),(.sl 1 (elems (nth (flds (nth (flds x0) 1)) 2)))]),(.agg 1 [(.sl 1 (elems (nth (flds (nth (flds x0) 2)) 0))),(eI (getI (nth (flds (nth (flds x0) 2)) 1)))]),(.agg 3 (flds (nth (flds x0) 3)))])])
 (λr0=>ifO (hasT EE 6 46 r0)
 (ifO (bne (getI r0) 0)
 (some (.val (.tup [(.sl 1 []),(eI (getI r0))])))
 (zC (zA 147 [(eI (getI x1))])
 (λr1=>ifO ((DV.isTup r1) && (zP (hasT EE 6) [251,46] (tups r1)))
 (zC (zA 149 [(eI (getI x2)),(eI 0),(eI 50)])
 (λr2=>ifO (hasT EE 6 46 r2)
 (zC (zA 148 [(.sl 1 [(eI (getI (nth (tups r1) 1))),(eI (getI r2))])])
 (λr3=>ifO (hasT EE 6 46 r3)
 (ifO (bne (getI r3) 0)
 (some (.val (.tup [(.sl 1 []),(eI (getI r3))])))
 (ifO (decide ((getI x2)>=(getI (nth (flds (nth (flds x0) 2)) 1))))
 (ifO (decide (((0:Int)<=(((List.length (elems (nth (flds (nth (flds x0) 0)) 2))):Nat):Int))/\(((((List.length (elems (nth (flds (nth (flds x0) 0)) 2))):Nat):Int)=(((List.length (elems (nth (flds (nth (flds x0) 0)) 2))):Nat):Int))/\((((8:Int) * (((List.length (elems (nth (flds (nth (flds x0) 0)) 2))):Nat):Int))<=(281474976710656:Int))/\((((List.length (elems (nth (flds (nth (flds x0) 0)) 2))):Nat):Int)<=(9223372036854775807:Int))))))
 (ifO (decide ((0+(List.length (α:=DV) (List.replicate (Int.toNat (((List.length (elems (nth (flds (nth (flds x0) 0)) 2))):Nat):Int)) (eI 0))))<=(List.length (α:=DV) (List.replicate (Int.toNat (((List.length (elems (nth (flds (nth (flds x0) 0)) 2))):Nat):Int)) (eI 0)))))
 (some (.val (.tup [(.sl 1 (List.take (List.length (α:=DV) (List.replicate (Int.toNat (((List.length (elems (nth (flds (nth (flds x0) 0)) 2))):Nat):Int)) (eI 0))) (List.drop 0 (List.replicate (Int.toNat (((List.length (elems (nth (flds (nth (flds x0) 0)) 2))):Nat):Int)) (eI 0))))),(eI 0)])))
 (none))
 (none))
 (zC (zA 146 [(.agg 0 [(.str (getS (nth (flds (nth (flds x0) 0)) 0))),(eI (getI (nth (flds (nth (flds x0) 0)) 1))),(.sl 3 (elems (nth (flds (nth (flds x0) 0)) 2)))])])
 (λr4=>ifO (hasT EE 6 81 r4)
 (zC (zA 153 [(.agg 0 [(.str (getS (nth (flds (nth (flds x0) 1)) 0))),(.sl 1 (elems (nth (flds (nth (flds x0) 1)) 1))),(.sl 1 (elems (nth (flds (nth (flds x0) 1)) 2)))]),(.sl 2 (elems r4)),(.agg 9 [(eI (getI (nth (flds (nth (tups r1) 0)) 0))),(.agg 1 [(eI (getI (nth (flds (nth (flds (nth (tups r1) 0)) 1)) 0))),(eI (getI (nth (flds (nth (flds (nth (tups r1) 0)) 1)) 1)))])])])
 (λr5=>ifO (hasT EE 6 25 r5)
 (zC (zA 152 [(.sl 1 (elems r5)),(eI (getI x2))])
 (λr6=>ifO (hasT EE 6 25 r6)
 (zC (zA 151 [(.sl 1 (elems r6)),(.fn 150 [(.agg 1 [(.sl 1 (elems (nth (flds (nth (flds x0) 2)) 0))),(eI (getI (nth (flds (nth (flds x0) 2)) 1)))])] [])])
 (λr7=>ifO (hasT EE 6 25 r7)
 (some (.val (.tup [(.sl 1 (elems r7)),(eI 0)])))
 (none))
 (λ_ _=>none))
 (none))
 (λ_ _=>none))
 (none))
 (λ_ _=>none))
 (none))
 (λ_ _=>none))))
 (none))
 (λ_ _=>none))
 (none))
 (λ_ _=>none))
 (none))
 (λ_ _=>none)))
 (none))
 (λ_ _=>none))
 (none) :=
 (zE (f:=32) (by kernel_rfl) (by kernel_rfl) (by kernel_rfl) [x0,x1,x2]).trans (by kernel_rfl)
theorem C106(x0 x1:DV):zA 106 [x0,x1] =
 ifO (zP (hasT EE 6) [60,3] [x0,x1])
 (zC (zA 114 [(.agg 1 [(.sl 1 (elems (nth (flds x0) 0))),(eI (getI (nth (flds x0) 1)))])])
 (λr0=>ifO (hasT EE 6 46 r0)
 (zC (zA 149 [(eI (getI x1)),(eI 0),(eI 13056)])
 (λr1=>ifO (hasT EE 6 46 r1)
 (zC (zA 148 [(.sl 1 [(eI (getI r0)),(eI (getI r1))])])
 (λr2=>ifO (hasT EE 6 46 r2)
 (ifO (bne (getI r2) 0)
 (some (.val (.tup [(eI 0),(eI (getI r2))])))
 (zC (zA 150 [(.agg 1 [(.sl 1 (elems (nth (flds x0) 0))),(eI (getI (nth (flds x0) 1)))]),(eI (getI x1))])
 (λr3=>ifO (hasT EE 6 3 r3)
 (some (.val (.tup [(eI (getI r3)),(eI 0)])))
 (none))
 (λ_ _=>none)))
 (none))
 (λ_ _=>none))
 (none))
 (λ_ _=>none))
 (none))
 (λ_ _=>none))
 (none) :=
 (zE (f:=106) (by kernel_rfl) (by kernel_rfl) (by kernel_rfl) [x0,x1]).trans (by kernel_rfl)
theorem C30(x0:DV):zA 30 [x0] =
 ifO (zP (hasT EE 6) [62] [x0])
 (zC (zA 40 [(.agg 4 [(.agg 0 [(.str (getS (nth (flds (nth (flds x0) 0)) 0))),(eI (getI (nth (flds (nth (flds x0) 0)) 1))),(.sl 3 (elems (nth (flds (nth (flds x0) 0)) 2)))]),(.agg 0 [(.str (getS (nth (flds (nth (flds x0) 1)) 0))),(.sl 1 (elems (nth (flds (nth (flds x0) 1)) 1))),(.sl 1 (elems (nth (flds (nth (flds x0) 1)) 2)))]),(.agg 1 [(.sl 1 (elems (nth (flds (nth (flds x0) 2)) 0))),(eI (getI (nth (flds (nth (flds x0) 2)) 1)))]),(.agg 3 (flds (nth (flds x0) 3)))])])
 (λr0=>ifO (hasT EE 6 46 r0)
 (ifO (bne (getI r0) 0)
 (some (.val (.tup [(eI 0),(eI (getI r0))])))
 (zC (zA 144 [(.agg 4 [(.agg 0 [(.str (getS (nth (flds (nth (flds x0) 0)) 0))),(eI (getI (nth (flds (nth (flds x0) 0)) 1))),(.sl 3 (elems (nth (flds (nth (flds x0) 0)) 2)))]),(.agg 0 [(.str (getS (nth (flds (nth (flds x0) 1)) 0))),(.sl 1 (elems (nth (flds (nth (flds x0) 1)) 1))),(.sl 1 (elems (nth (flds (nth (flds x0) 1)) 2)))]),(.agg 1 [(.sl 1 (elems (nth (flds (nth (flds x0) 2)) 0))),(eI (getI (nth (flds (nth (flds x0) 2)) 1)))]),(.agg 3 (flds (nth (flds x0) 3)))])])
 (λr1=>ifO (hasT EE 6 246 r1)
 (zC (zA 146 [(.agg 0 [(.str (getS (nth (flds (nth (flds x0) 0)) 0))),(eI (getI (nth (flds (nth (flds x0) 0)) 1))),(.sl 3 (elems (nth (flds (nth (flds x0) 0)) 2)))])])
 (λr2=>ifO (hasT EE 6 81 r2)
 (zC (zA 145 [(.agg 13 [(.agg 0 [(.str (getS (nth (flds (nth (flds r1) 0)) 0))),(.sl 1 (elems (nth (flds (nth (flds r1) 0)) 1))),(.sl 1 (elems (nth (flds (nth (flds r1) 0)) 2)))]),(.agg 1 [(.sl 1 (elems (nth (flds (nth (flds r1) 1)) 0))),(eI (getI (nth (flds (nth (flds r1) 1)) 1)))]),(.agg 3 (flds (nth (flds r1) 2)))]),(.sl 2 (elems r2)),(eI 0)])
 (λr3=>ifO (hasT EE 6 3 r3)
 (some (.val (.tup [(eI (getI r3)),(eI 0)])))
 (none))
 (λ_ _=>none))
 (none))
 (λ_ _=>none))
 (none))
 (λ_ _=>none)))
 (none))
 (λ_ _=>none))
 (none) :=
 (zE (f:=30) (by kernel_rfl) (by kernel_rfl) (by kernel_rfl) [x0]).trans (by kernel_rfl)
theorem C84(x0:DV):zA 84 [x0] =
 ifO (zP (hasT EE 6) [62] [x0])
 (zC (zA 40 [(.agg 4 [(.agg 0 [(.str (getS (nth (flds (nth (flds x0) 0)) 0))),(eI (getI (nth (flds (nth (flds x0) 0)) 1))),(.sl 3 (elems (nth (flds (nth (flds x0) 0)) 2)))]),(.agg 0 [(.str (getS (nth (flds (nth (flds x0) 1)) 0))),(.sl 1 (elems (nth (flds (nth (flds x0) 1)) 1))),(.sl 1 (elems (nth (flds (nth (flds x0) 1)) 2)))]),(.agg 1 [(.sl 1 (elems (nth (flds (nth (flds x0) 2)) 0))),(eI (getI (nth (flds (nth (flds x0) 2)) 1)))]),(.agg 3 (flds (nth (flds x0) 3)))])])
 (λr0=>ifO (hasT EE 6 46 r0)
 (ifO (bne (getI r0) 0)
 (some (.val (.tup [(eI 0),(eI (getI r0))])))
 (zC (zA 144 [(.agg 4 [(.agg 0 [(.str (getS (nth (flds (nth (flds x0) 0)) 0))),(eI (getI (nth (flds (nth (flds x0) 0)) 1))),(.sl 3 (elems (nth (flds (nth (flds x0) 0)) 2)))]),(.agg 0 [(.str (getS (nth (flds (nth (flds x0) 1)) 0))),(.sl 1 (elems (nth (flds (nth (flds x0) 1)) 1))),(.sl 1 (elems (nth (flds (nth (flds x0) 1)) 2)))]),(.agg 1 [(.sl 1 (elems (nth (flds (nth (flds x0) 2)) 0))),(eI (getI (nth (flds (nth (flds x0) 2)) 1)))]),(.agg 3 (flds (nth (flds x0) 3)))])])
 (λr1=>ifO (hasT EE 6 246 r1)
 (zC (zA 202 [(.agg 13 [(.agg 0 [(.str (getS (nth (flds (nth (flds r1) 0)) 0))),(.sl 1 (elems (nth (flds (nth (flds r1) 0)) 1))),(.sl 1 (elems (nth (flds (nth (flds r1) 0)) 2)))]),(.agg 1 [(.sl 1 (elems (nth (flds (nth (flds r1) 1)) 0))),(eI (getI (nth (flds (nth (flds r1) 1)) 1)))]),(.agg 3 (flds (nth (flds r1) 2)))])])
 (λr2=>ifO (hasT EE 6 246 r2)
 (zC (zA 146 [(.agg 0 [(.str (getS (nth (flds (nth (flds x0) 0)) 0))),(eI (getI (nth (flds (nth (flds x0) 0)) 1))),(.sl 3 (elems (nth (flds (nth (flds x0) 0)) 2)))])])
 (λr3=>ifO (hasT EE 6 81 r3)
 (zC (zA 145 [(.agg 13 [(.agg 0 [(.str (getS (nth (flds (nth (flds r2) 0)) 0))),(.sl 1 (elems (nth (flds (nth (flds r2) 0)) 1))),(.sl 1 (elems (nth (flds (nth (flds r2) 0)) 2)))]),(.agg 1 [(.sl 1 (elems (nth (flds (nth (flds r2) 1)) 0))),(eI (getI (nth (flds (nth (flds r2) 1)) 1)))]),(.agg 3 (flds (nth (flds r2) 2)))]),(.sl 2 (elems r3)),(eI 0)])
 (λr4=>ifO (hasT EE 6 3 r4)
 (some (.val (.tup [(eI (getI r4)),(eI 0)])))
 (none))
 (λ_ _=>none))
 (none))
 (λ_ _=>none))
 (none))
 (λ_ _=>none))
 (none))
 (λ_ _=>none)))
 (none))
 (λ_ _=>none))
 (none) :=
 (zE (f:=84) (by kernel_rfl) (by kernel_rfl) (by kernel_rfl) [x0]).trans (by kernel_rfl)
def S85_0a(v0 v1 v2 v3:Int):St :=
 stOf 47 [(2,(.ptr 2 2 0 [])),(4,(.d (eI v0))),(6,(.d (eI v1))),(7,(.d (eI v2))),(8,(.d (eI v3)))] [(2,(.mk false (.dc 2 [(.agg 1 [(eI 0),(eI 0)])])))]
noncomputable def L85_0a(v0 v1 v2 v3:Int):Option CR:=goQ 85 0 (S85_0a v0 v1 v2 v3)
theorem L85_0a_eq(v0 v1 v2 v3:Int):L85_0a v0 v1 v2 v3 =
 ifO (bne v3 (0:Int))
 (ifO (!(v3 == (0:Int)))
 ((L85_0a v0 v1 v3 (Int.tmod v2 v3)))
 (none))
 (ifO (!(v2 == (0:Int)))
 (ifO (!(v2 == (0:Int)))
 (some (.val (.tup [(.agg 1 [(eI (IntKind.wrap .i64 (Int.tdiv v1 v2))),(eI (IntKind.wrap .i64 (Int.tdiv v0 v2)))]),(eI 0)])))
 (none))
 (none)) :=
 (zU 85 0 _).trans (by kernel_rfl)
theorem C85(x0:DV):zA 85 [x0] =
 ifO (zP (hasT EE 6) [62] [x0])
 (zC (zA 84 [(.agg 4 [(.agg 0 [(.str (getS (nth (flds (nth (flds x0) 0)) 0))),(eI (getI (nth (flds (nth (flds x0) 0)) 1))),(.sl 3 (elems (nth (flds (nth (flds x0) 0)) 2)))]),(.agg 0 [(.str (getS (nth (flds (nth (flds x0) 1)) 0))),(.sl 1 (elems (nth (flds (nth (flds x0) 1)) 1))),(.sl 1 (elems (nth (flds (nth (flds x0) 1)) 2)))]),(.agg 1 [(.sl 1 (elems (nth (flds (nth (flds x0) 2)) 0))),(eI (getI (nth (flds (nth (flds x0) 2)) 1)))]),(.agg 3 (flds (nth (flds x0) 3)))])])
 (λr0=>ifO ((DV.isTup r0) && (zP (hasT EE 6) [3,46] (tups r0)))
 (zC (zA 169 [(.bool ((getI (nth (tups r0) 0)) == (0:Int))),(eI 6)])
 (λr1=>ifO (hasT EE 6 46 r1)
 (zC (zA 148 [(.sl 1 [(eI (getI (nth (tups r0) 1))),(eI (getI r1))])])
 (λr2=>ifO (hasT EE 6 46 r2)
 (ifO (bne (getI r2) 0)
 (some (.val (.tup [(.agg 1 [(eI 0),(eI 0)]),(eI (getI r2))])))
 (zC (zA 144 [(.agg 4 [(.agg 0 [(.str (getS (nth (flds (nth (flds x0) 0)) 0))),(eI (getI (nth (flds (nth (flds x0) 0)) 1))),(.sl 3 (elems (nth (flds (nth (flds x0) 0)) 2)))]),(.agg 0 [(.str (getS (nth (flds (nth (flds x0) 1)) 0))),(.sl 1 (elems (nth (flds (nth (flds x0) 1)) 1))),(.sl 1 (elems (nth (flds (nth (flds x0) 1)) 2)))]),(.agg 1 [(.sl 1 (elems (nth (flds (nth (flds x0) 2)) 0))),(eI (getI (nth (flds (nth (flds x0) 2)) 1)))]),(.agg 3 (flds (nth (flds x0) 3)))])])
 (λr3=>ifO (hasT EE 6 246 r3)
 (zC (zA 146 [(.agg 0 [(.str (getS (nth (flds (nth (flds x0) 0)) 0))),(eI (getI (nth (flds (nth (flds x0) 0)) 1))),(.sl 3 (elems (nth (flds (nth (flds x0) 0)) 2)))])])
 (λr4=>ifO (hasT EE 6 81 r4)
 (zC (zA 145 [(.agg 13 [(.agg 0 [(.str (getS (nth (flds (nth (flds r3) 0)) 0))),(.sl 1 (elems (nth (flds (nth (flds r3) 0)) 1))),(.sl 1 (elems (nth (flds (nth (flds r3) 0)) 2)))]),(.agg 1 [(.sl 1 (elems (nth (flds (nth (flds r3) 1)) 0))),(eI (getI (nth (flds (nth (flds r3) 1)) 1)))]),(.agg 3 (flds (nth (flds r3) 2)))]),(.sl 2 (elems r4)),(eI 0)])
 (λr5=>ifO (hasT EE 6 3 r5)
 ((L85_0a (getI (nth (tups r0) 0)) (IntKind.wrap .i64 ((getI (nth (tups r0) 0)) - (getI r5))) (IntKind.wrap .i64 ((getI (nth (tups r0) 0)) - (getI r5))) (getI (nth (tups r0) 0))))
 (none))
 (λ_ _=>none))
 (none))
 (λ_ _=>none))
 (none))
 (λ_ _=>none)))
 (none))
 (λ_ _=>none))
 (none))
 (λ_ _=>none))
 (none))
 (λ_ _=>none))
 (none) :=
 (zE (f:=85) (by kernel_rfl) (by kernel_rfl) (by kernel_rfl) [x0]).trans (by kernel_rfl)
theorem C40(x0:DV):zA 40 [x0] =
 ifO (zP (hasT EE 6) [62] [x0])
 (zC (zA 158 [(.agg 0 [(.str (getS (nth (flds (nth (flds x0) 0)) 0))),(eI (getI (nth (flds (nth (flds x0) 0)) 1))),(.sl 3 (elems (nth (flds (nth (flds x0) 0)) 2)))])])
 (λr0=>ifO (hasT EE 6 46 r0)
 (zC (zA 75 [(.agg 0 [(.str (getS (nth (flds (nth (flds x0) 1)) 0))),(.sl 1 (elems (nth (flds (nth (flds x0) 1)) 1))),(.sl 1 (elems (nth (flds (nth (flds x0) 1)) 2)))])])
 (λr1=>ifO (hasT EE 6 46 r1)
 (zC (zA 114 [(.agg 1 [(.sl 1 (elems (nth (flds (nth (flds x0) 2)) 0))),(eI (getI (nth (flds (nth (flds x0) 2)) 1)))])])
 (λr2=>ifO (hasT EE 6 46 r2)
 (zC (zA 159 [(.agg 3 (flds (nth (flds x0) 3)))])
 (λr3=>ifO (hasT EE 6 46 r3)
 (zC (zA 148 [(.sl 1 [(eI (getI r0)),(eI (getI r1)),(eI (getI r2)),(eI (getI r3))])])
 (λr4=>ifO (hasT EE 6 46 r4)
 (some (.val (eI (getI r4))))
 (none))
 (λ_ _=>none))
 (none))
 (λ_ _=>none))
 (none))
 (λ_ _=>none))
 (none))
 (λ_ _=>none))
 (none))
 (λ_ _=>none))
 (none) :=
 (zE (f:=40) (by kernel_rfl) (by kernel_rfl) (by kernel_rfl) [x0]).trans (by kernel_rfl)
def S114_0a(v0:List DV)(v1 v2 v3:Int):St :=
 stOf 56 [(1,(.ptr 1 2 0 [])),(17,(.d (.sl 1 v0))),(18,(.d (eI v1))),(19,(.d (eI v2)))] [(1,(.mk false (.dc 2 [(.agg 1 [(.sl 1 v0),(eI v3)])])))]
noncomputable def qj(v0:List DV)(v1 v2 v3:Int):Option CR:=goQ 114 0 (S114_0a v0 v1 v2 v3)
theorem L114_0a_eq(v0:List DV)(v1 v2 v3:Int):qj v0 v1 v2 v3 =
 ifO (decide (v2<v1))
 (ifO (decide (((0:Int)<=v2)/\(v2<(((List.length v0):Nat):Int))))
 (ifO (hasT EE 6 3 (nth v0 (Int.toNat v2)))
 (zC (zA 149 [(eI (getI (nth v0 (Int.toNat v2)))),(eI 0),(eI 100000)])
 (λr0=>ifO (hasT EE 6 46 r0)
 (ifO (decide (v2>(0:Int)))
 (ifO (decide (((0:Int)<=(ite ((IntKind.wrap .i64 (v2 - (1:Int)))>(0:Int)) (IntKind.wrap .i64 (v2 - (1:Int))) (0:Int)))/\((ite ((IntKind.wrap .i64 (v2 - (1:Int)))>(0:Int)) (IntKind.wrap .i64 (v2 - (1:Int))) (0:Int))<(((List.length v0):Nat):Int))))
 (ifO (hasT EE 6 3 (nth v0 (Int.toNat (ite ((IntKind.wrap .i64 (v2 - (1:Int)))>(0:Int)) (IntKind.wrap .i64 (v2 - (1:Int))) (0:Int)))))
 (zC (zA 169 [(.bool (decide ((getI (nth v0 (Int.toNat v2)))<(getI (nth v0 (Int.toNat (ite ((IntKind.wrap .i64 (v2 - (1:Int)))>(0:Int)) (IntKind.wrap .i64 (v2 - (1:Int))) (0:Int)))))))),(eI 11)])
 (λr1=>ifO (hasT EE 6 46 r1)
 (ifO (v2 == (0:Int))
 (zC (zA 169 [(.bool (bne (getI (nth v0 (Int.toNat v2))) (0:Int))),(eI 6)])
 (λr2=>ifO (hasT EE 6 46 r2)
 (zC (zA 148 [(.sl 1 [(eI (getI r0)),(eI (getI r1)),(eI (getI r2))])])
 (λr3=>ifO (hasT EE 6 46 r3)
 (ifO (bne (getI r3) 0)
 (some (.val (eI (getI r3))))
 ((qj v0 v1 (IntKind.wrap .i64 (v2+(1:Int))) v3)))
 (none))
 (λ_ _=>none))
 (none))
 (λ_ _=>none))
 (zC (zA 169 [(.bool false),(eI 6)])
 (λr8=>ifO (hasT EE 6 46 r8)
 (zC (zA 148 [(.sl 1 [(eI (getI r0)),(eI (getI r1)),(eI (getI r8))])])
 (λr9=>ifO (hasT EE 6 46 r9)
 (ifO (bne (getI r9) 0)
 (some (.val (eI (getI r9))))
 ((qj v0 v1 (IntKind.wrap .i64 (v2+(1:Int))) v3)))
 (none))
 (λ_ _=>none))
 (none))
 (λ_ _=>none)))
 (none))
 (λ_ _=>none))
 (none))
 (none))
 (zC (zA 169 [(.bool false),(eI 11)])
 (λr16=>ifO (hasT EE 6 46 r16)
 (ifO (v2 == (0:Int))
 (zC (zA 169 [(.bool (bne (getI (nth v0 (Int.toNat v2))) (0:Int))),(eI 6)])
 (λr17=>ifO (hasT EE 6 46 r17)
 (zC (zA 148 [(.sl 1 [(eI (getI r0)),(eI (getI r16)),(eI (getI r17))])])
 (λr18=>ifO (hasT EE 6 46 r18)
 (ifO (bne (getI r18) 0)
 (some (.val (eI (getI r18))))
 ((qj v0 v1 (IntKind.wrap .i64 (v2+(1:Int))) v3)))
 (none))
 (λ_ _=>none))
 (none))
 (λ_ _=>none))
 (zC (zA 169 [(.bool false),(eI 6)])
 (λr23=>ifO (hasT EE 6 46 r23)
 (zC (zA 148 [(.sl 1 [(eI (getI r0)),(eI (getI r16)),(eI (getI r23))])])
 (λr24=>ifO (hasT EE 6 46 r24)
 (ifO (bne (getI r24) 0)
 (some (.val (eI (getI r24))))
 ((qj v0 v1 (IntKind.wrap .i64 (v2+(1:Int))) v3)))
 (none))
 (λ_ _=>none))
 (none))
 (λ_ _=>none)))
 (none))
 (λ_ _=>none)))
 (none))
 (λ_ _=>none))
 (none))
 (none))
 (zC (zA 149 [(eI v3),(eI 1),(eI 51)])
 (λr33=>ifO (hasT EE 6 46 r33)
 (some (.val (eI (getI r33))))
 (none))
 (λ_ _=>none)) :=
 (zU 114 0 _).trans (by kernel_rfl)
theorem C114(x0:DV):zA 114 [x0] =
 ifO (zP (hasT EE 6) [60] [x0])
 (ifO (decide ((((List.length (elems (nth (flds x0) 0))):Nat):Int)<(2:Int)))
 (some (.val (eI 2)))
 (ifO (decide ((((List.length (elems (nth (flds x0) 0))):Nat):Int)>(51:Int)))
 (some (.val (eI 2)))
 ((qj (elems (nth (flds x0) 0)) (((List.length (elems (nth (flds x0) 0))):Nat):Int) (0:Int) (getI (nth (flds x0) 1))))))
 (none) :=
 (zE (f:=114) (by kernel_rfl) (by kernel_rfl) (by kernel_rfl) [x0]).trans (by kernel_rfl)
end Go.Am
namespace Go.Am
open Go.Proofs
open Go
variable[OO]
def S75_0a(v0:List DV)(v1 v2:Int)(v3:ByteArray)(v4:List DV):St :=
 stOf 103 [(1,(.ptr 1 3 0 [])),(44,(.d (.sl 1 v0))),(45,(.d (eI v1))),(46,(.d (eI v2)))] [(1,(.mk false (.dc 3 [(.agg 0 [(.str v3),(.sl 1 v0),(.sl 1 v4)])])))]
noncomputable def QY(v0:List DV)(v1 v2:Int)(v3:ByteArray)(v4:List DV):Option CR:=goQ 75 0 (S75_0a v0 v1 v2 v3 v4)
def S75_1a(v0:List DV)(v1 v2:Int)(v3:ByteArray)(v4:List DV):St :=
 stOf 103 [(1,(.ptr 1 3 0 [])),(74,(.d (.sl 1 v0))),(75,(.d (eI v1))),(76,(.d (eI v2)))] [(1,(.mk false (.dc 3 [(.agg 0 [(.str v3),(.sl 1 v4),(.sl 1 v0)])])))]
noncomputable def zBB(v0:List DV)(v1 v2:Int)(v3:ByteArray)(v4:List DV):Option CR:=goQ 75 1 (S75_1a v0 v1 v2 v3 v4)
theorem L75_0a_eq(v0:List DV)(v1 v2:Int)(v3:ByteArray)(v4:List DV):QY v0 v1 v2 v3 v4 =
 ifO (decide (v2<v1))
 (ifO (decide (((0:Int)<=v2)/\(v2<(((List.length v0):Nat):Int))))
 (ifO (hasT EE 6 3 (nth v0 (Int.toNat v2)))
 (zC (zA 149 [(eI (getI (nth v0 (Int.toNat v2)))),(eI 0),(eI 256)])
 (λr33=>ifO (hasT EE 6 46 r33)
 (ifO (decide (v2>(0:Int)))
 (ifO (decide (((0:Int)<=(ite ((IntKind.wrap .i64 (v2 - (1:Int)))>(0:Int)) (IntKind.wrap .i64 (v2 - (1:Int))) (0:Int)))/\((ite ((IntKind.wrap .i64 (v2 - (1:Int)))>(0:Int)) (IntKind.wrap .i64 (v2 - (1:Int))) (0:Int))<(((List.length v0):Nat):Int))))
 (ifO (hasT EE 6 3 (nth v0 (Int.toNat (ite ((IntKind.wrap .i64 (v2 - (1:Int)))>(0:Int)) (IntKind.wrap .i64 (v2 - (1:Int))) (0:Int)))))
 (zC (zA 169 [(.bool (decide ((getI (nth v0 (Int.toNat v2)))>(getI (nth v0 (Int.toNat (ite ((IntKind.wrap .i64 (v2 - (1:Int)))>(0:Int)) (IntKind.wrap .i64 (v2 - (1:Int))) (0:Int)))))))),(eI 11)])
 (λr34=>ifO (hasT EE 6 46 r34)
 (zC (zA 148 [(.sl 1 [(eI (getI r33)),(eI (getI r34))])])
 (λr35=>ifO (hasT EE 6 46 r35)
 (ifO (bne (getI r35) 0)
 (some (.val (eI (getI r35))))
 ((QY v0 v1 (IntKind.wrap .i64 (v2+(1:Int))) v3 v4)))
 (none))
 (λ_ _=>none))
 (none))
 (λ_ _=>none))
 (none))
 (none))
 (zC (zA 169 [(.bool false),(eI 11)])
 (λr40=>ifO (hasT EE 6 46 r40)
 (zC (zA 148 [(.sl 1 [(eI (getI r33)),(eI (getI r40))])])
 (λr41=>ifO (hasT EE 6 46 r41)
 (ifO (bne (getI r41) 0)
 (some (.val (eI (getI r41))))
 ((QY v0 v1 (IntKind.wrap .i64 (v2+(1:Int))) v3 v4)))
 (none))
 (λ_ _=>none))
 (none))
 (λ_ _=>none)))
 (none))
 (λ_ _=>none))
 (none))
 (none))
 ((zBB v4 (((List.length v4):Nat):Int) (0:Int) v3 v0)) :=
 (zU 75 0 _).trans (by kernel_rfl)
theorem L75_1a_eq(v0:List DV)(v1 v2:Int)(v3:ByteArray)(v4:List DV):zBB v0 v1 v2 v3 v4 =
 ifO (decide (v2<v1))
 (ifO (decide (((0:Int)<=v2)/\(v2<(((List.length v0):Nat):Int))))
 (ifO (hasT EE 6 3 (nth v0 (Int.toNat v2)))
 (zC (zA 149 [(eI (getI (nth v0 (Int.toNat v2)))),(eI 0),(eI 100)])
 (λr48=>ifO (hasT EE 6 46 r48)
 (ifO (decide (v2>(0:Int)))
 (ifO (decide (((0:Int)<=(ite ((IntKind.wrap .i64 (v2 - (1:Int)))>(0:Int)) (IntKind.wrap .i64 (v2 - (1:Int))) (0:Int)))/\((ite ((IntKind.wrap .i64 (v2 - (1:Int)))>(0:Int)) (IntKind.wrap .i64 (v2 - (1:Int))) (0:Int))<(((List.length v0):Nat):Int))))
 (ifO (hasT EE 6 3 (nth v0 (Int.toNat (ite ((IntKind.wrap .i64 (v2 - (1:Int)))>(0:Int)) (IntKind.wrap .i64 (v2 - (1:Int))) (0:Int)))))
 (zC (zA 169 [(.bool (decide ((getI (nth v0 (Int.toNat v2)))<(getI (nth v0 (Int.toNat (ite ((IntKind.wrap .i64 (v2 - (1:Int)))>(0:Int)) (IntKind.wrap .i64 (v2 - (1:Int))) (0:Int)))))))),(eI 11)])
 (λr49=>ifO (hasT EE 6 46 r49)
 (zC (zA 148 [(.sl 1 [(eI (getI r48)),(eI (getI r49))])])
 (λr50=>ifO (hasT EE 6 46 r50)
 (ifO (bne (getI r50) 0)
 (some (.val (eI (getI r50))))
 ((zBB v0 v1 (IntKind.wrap .i64 (v2+(1:Int))) v3 v4)))
 (none))
 (λ_ _=>none))
 (none))
 (λ_ _=>none))
 (none))
 (none))
 (zC (zA 169 [(.bool false),(eI 11)])
 (λr55=>ifO (hasT EE 6 46 r55)
 (zC (zA 148 [(.sl 1 [(eI (getI r48)),(eI (getI r55))])])
 (λr56=>ifO (hasT EE 6 46 r56)
 (ifO (bne (getI r56) 0)
 (some (.val (eI (getI r56))))
 ((zBB v0 v1 (IntKind.wrap .i64 (v2+(1:Int))) v3 v4)))
 (none))
 (λ_ _=>none))
 (none))
 (λ_ _=>none)))
 (none))
 (λ_ _=>none))
 (none))
 (none))
 (some (.val (eI 0))) :=
 (zU 75 1 _).trans (by kernel_rfl)
theorem C75(x0:DV):zA 75 [x0] =
 ifO (zP (hasT EE 6) [59] [x0])
 (zC (zA 198 [])
 (λr0=>ifO (hasT EE 6 314 r0)
 (ifO (Option.isSome (jh (.str (getS (nth (flds x0) 0))) (keys r0) (vals r0)))
 (ifO (Option.isSome (Option.getD (jh (.str (getS (nth (flds x0) 0))) (keys r0) (vals r0)) (Option.none)))
 (ifO (hasT EE 6 312 (Option.getD (Option.getD (jh (.str (getS (nth (flds x0) 0))) (keys r0) (vals r0)) (Option.none)) .nl))
 (zC (zA 169 [(.bool false),(eI 13)])
 (λr1=>ifO (hasT EE 6 46 r1)
 (zC (zA 169 [(.bool ((((List.length (elems (nth (flds x0) 1))):Nat):Int) == (0:Int))),(eI 12)])
 (λr2=>ifO (hasT EE 6 46 r2)
 (zC (zA 169 [(.bool (decide ((((List.length (elems (nth (flds x0) 1))):Nat):Int)>(32:Int)))),(eI 5)])
 (λr3=>ifO (hasT EE 6 46 r3)
 (zC (zA 169 [(.bool (bne (((List.length (elems (nth (flds x0) 2))):Nat):Int) (((List.length (elems (nth (flds x0) 1))):Nat):Int))),(eI 2)])
 (λr4=>ifO (hasT EE 6 46 r4)
 (zC (zA 148 [(.sl 1 [(eI (getI r1)),(eI (getI r2)),(eI (getI r3)),(eI (getI r4))])])
 (λr5=>ifO (hasT EE 6 46 r5)
 (ifO (bne (getI r5) 0)
 (some (.val (eI (getI r5))))
 ((QY (elems (nth (flds x0) 1)) (((List.length (elems (nth (flds x0) 1))):Nat):Int) (0:Int) (getS (nth (flds x0) 0)) (elems (nth (flds x0) 2)))))
 (none))
 (λ_ _=>none))
 (none))
 (λ_ _=>none))
 (none))
 (λ_ _=>none))
 (none))
 (λ_ _=>none))
 (none))
 (λ_ _=>none))
 (none))
 (zC (zA 169 [(.bool true),(eI 13)])
 (λr16=>ifO (hasT EE 6 46 r16)
 (zC (zA 169 [(.bool ((((List.length (elems (nth (flds x0) 1))):Nat):Int) == (0:Int))),(eI 12)])
 (λr17=>ifO (hasT EE 6 46 r17)
 (zC (zA 169 [(.bool (decide ((((List.length (elems (nth (flds x0) 1))):Nat):Int)>(32:Int)))),(eI 5)])
 (λr18=>ifO (hasT EE 6 46 r18)
 (zC (zA 169 [(.bool (bne (((List.length (elems (nth (flds x0) 2))):Nat):Int) (((List.length (elems (nth (flds x0) 1))):Nat):Int))),(eI 2)])
 (λr19=>ifO (hasT EE 6 46 r19)
 (zC (zA 148 [(.sl 1 [(eI (getI r16)),(eI (getI r17)),(eI (getI r18)),(eI (getI r19))])])
 (λr20=>ifO (hasT EE 6 46 r20)
 (ifO (bne (getI r20) 0)
 (some (.val (eI (getI r20))))
 ((QY (elems (nth (flds x0) 1)) (((List.length (elems (nth (flds x0) 1))):Nat):Int) (0:Int) (getS (nth (flds x0) 0)) (elems (nth (flds x0) 2)))))
 (none))
 (λ_ _=>none))
 (none))
 (λ_ _=>none))
 (none))
 (λ_ _=>none))
 (none))
 (λ_ _=>none))
 (none))
 (λ_ _=>none)))
 (none))
 (none))
 (λ_ _=>none))
 (none) :=
 (zE (f:=75) (by kernel_rfl) (by kernel_rfl) (by kernel_rfl) [x0]).trans (by kernel_rfl)
theorem C147(x0:DV):zA 147 [x0] =
 ifO (zP (hasT EE 6) [3] [x0])
 (zC (zA 149 [(eI (getI x0)),(eI 0),(eI 7)])
 (λr0=>ifO (hasT EE 6 46 r0)
 (ifO (bne (getI r0) 0)
 (some (.val (.tup [(.agg 9 [(eI 0),(.agg 1 [(eI 0),(eI 0)])]),(eI (getI r0))])))
 (zC (zA 234 [(eI (getI x0))])
 (λr1=>ifO ((DV.isTup r1) && (zP (hasT EE 6) [141,46] (tups r1)))
 (some (.val (.tup [(.agg 9 [(eI (getI x0)),(.agg 1 [(eI (getI (nth (flds (nth (tups r1) 0)) 0))),(eI (getI (nth (flds (nth (tups r1) 0)) 1)))])]),(eI (getI (nth (tups r1) 1)))])))
 (none))
 (λ_ _=>none)))
 (none))
 (λ_ _=>none))
 (none) :=
 (zE (f:=147) (by kernel_rfl) (by kernel_rfl) (by kernel_rfl) [x0]).trans (by kernel_rfl)
theorem C150(x0 x1:DV):zA 150 [x0,x1] =
 ifO (zP (hasT EE 6) [60,3] [x0,x1])
 (ifO (decide ((IntKind.wrap .i64 (Int.tdiv (getI x1) (256:Int)))>=(IntKind.wrap .i64 ((((List.length (elems (nth (flds x0) 0))):Nat):Int) - (1:Int)))))
 (ifO (decide (((0:Int)<=(IntKind.wrap .i64 ((((List.length (elems (nth (flds x0) 0))):Nat):Int) - (1:Int))))/\((IntKind.wrap .i64 ((((List.length (elems (nth (flds x0) 0))):Nat):Int) - (1:Int)))<(((List.length (elems (nth (flds x0) 0))):Nat):Int))))
 (ifO (hasT EE 6 3 (nth (elems (nth (flds x0) 0)) (Int.toNat (IntKind.wrap .i64 ((((List.length (elems (nth (flds x0) 0))):Nat):Int) - (1:Int))))))
 (some (.val (eI (IntKind.wrap .i64 ((256:Int) * (getI (nth (elems (nth (flds x0) 0)) (Int.toNat (IntKind.wrap .i64 ((((List.length (elems (nth (flds x0) 0))):Nat):Int) - (1:Int)))))))))))
 (none))
 (none))
 (ifO (decide (((0:Int)<=(IntKind.wrap .i64 (Int.tdiv (getI x1) (256:Int))))/\((IntKind.wrap .i64 (Int.tdiv (getI x1) (256:Int)))<(((List.length (elems (nth (flds x0) 0))):Nat):Int))))
 (ifO (hasT EE 6 3 (nth (elems (nth (flds x0) 0)) (Int.toNat (IntKind.wrap .i64 (Int.tdiv (getI x1) (256:Int))))))
 (ifO (decide (((0:Int)<=(IntKind.wrap .i64 ((IntKind.wrap .i64 (Int.tdiv (getI x1) (256:Int)))+(1:Int))))/\((IntKind.wrap .i64 ((IntKind.wrap .i64 (Int.tdiv (getI x1) (256:Int)))+(1:Int)))<(((List.length (elems (nth (flds x0) 0))):Nat):Int))))
 (ifO (hasT EE 6 3 (nth (elems (nth (flds x0) 0)) (Int.toNat (IntKind.wrap .i64 ((IntKind.wrap .i64 (Int.tdiv (getI x1) (256:Int)))+(1:Int))))))
 (ifO (decide (((0:Int)<=(IntKind.wrap .i64 (Int.tdiv (getI x1) (256:Int))))/\((IntKind.wrap .i64 (Int.tdiv (getI x1) (256:Int)))<(((List.length (elems (nth (flds x0) 0))):Nat):Int))))
 (ifO (hasT EE 6 3 (nth (elems (nth (flds x0) 0)) (Int.toNat (IntKind.wrap .i64 (Int.tdiv (getI x1) (256:Int))))))
 (some (.val (eI (IntKind.wrap .i64 ((IntKind.wrap .i64 ((256:Int) * (getI (nth (elems (nth (flds x0) 0)) (Int.toNat (IntKind.wrap .i64 (Int.tdiv (getI x1) (256:Int))))))))+(IntKind.wrap .i64 ((IntKind.wrap .i64 ((getI (nth (elems (nth (flds x0) 0)) (Int.toNat (IntKind.wrap .i64 ((IntKind.wrap .i64 (Int.tdiv (getI x1) (256:Int)))+(1:Int)))))) - (getI (nth (elems (nth (flds x0) 0)) (Int.toNat (IntKind.wrap .i64 (Int.tdiv (getI x1) (256:Int)))))))) * (Int.tmod (getI x1) (256:Int)))))))))
 (none))
 (none))
 (none))
 (none))
 (none))
 (none)))
 (none) :=
 (zE (f:=150) (by kernel_rfl) (by kernel_rfl) (by kernel_rfl) [x0,x1]).trans (by kernel_rfl)
def S151_0a(v0:Nat)(v1 v2 v3:List DV)(v4:Int):St :=
 stOf 22 [(1,(.d (.fn v0 v1 v2))),(5,(.d .nl)),(8,(.d (.sl 1 v3))),(9,(.d (eI v4))),(10,(.d (eI 0)))] []
noncomputable def L151_0a(v0:Nat)(v1 v2 v3:List DV)(v4:Int):Option CR:=goQ 151 0 (S151_0a v0 v1 v2 v3 v4)
def S151_0b(v0:Nat)(v1 v2 v3 v4:List DV)(v5 v6:Int):St :=
 stOf 22 [(1,(.d (.fn v0 v1 v2))),(5,(.own 19 0 (List.length v3) 1)),(8,(.d (.sl 1 v4))),(9,(.d (eI v5))),(10,(.d (eI v6)))] [(19,(.mk false (.dc 1 v3)))]
noncomputable def L151_0b(v0:Nat)(v1 v2 v3 v4:List DV)(v5 v6:Int):Option CR:=goQ 151 0 (S151_0b v0 v1 v2 v3 v4 v5 v6)
theorem L151_0a_eq(v0:Nat)(v1 v2 v3:List DV)(v4:Int):L151_0a v0 v1 v2 v3 v4 =
 ifO (decide ((0:Int)<v4))
 (ifO (decide (((0:Int)<=(0:Int))/\((0:Int)<(((List.length v3):Nat):Int))))
 (ifO (hasT EE 6 3 (nth v3 0))
 (zC (zA v0 (z1 EE v0 ((v1++[(eI (getI (nth v3 0)))])++v2)))
 (λr0=>ifO (hasT EE 6 3 r0)
 ((L151_0b v0 v1 v2 [(eI (getI r0))] v3 v4 (1:Int)))
 (none))
 (λ_ _=>none))
 (none))
 (none))
 (some (.val (.sl 1 []))) :=
 (zU 151 0 _).trans (by kernel_rfl)
theorem L151_0b_eq(v0:Nat)(v1 v2 v3 v4:List DV)(v5 v6:Int):L151_0b v0 v1 v2 v3 v4 v5 v6 =
 ifO (decide (v6<v5))
 (ifO (decide (((0:Int)<=v6)/\(v6<(((List.length v4):Nat):Int))))
 (ifO (hasT EE 6 3 (nth v4 (Int.toNat v6)))
 (zC (zA v0 (z1 EE v0 ((v1++[(eI (getI (nth v4 (Int.toNat v6))))])++v2)))
 (λr3=>ifO (hasT EE 6 3 r3)
 (ifO (decide ((List.length v3)=(List.length v3)))
 (ifO (decide ((((2 * ((List.length v3)+1))+200) * 8)<=281474976710656))
 ((L151_0b v0 v1 v2 (v3++[(eI (getI r3))]) v4 v5 (IntKind.wrap .i64 (v6+(1:Int)))))
 (none))
 (none))
 (none))
 (λ_ _=>none))
 (none))
 (none))
 (ifO (decide ((0+(List.length v3))<=(List.length v3)))
 (some (.val (.sl 1 (List.take (List.length v3) (List.drop 0 v3)))))
 (none)) :=
 (zU 151 0 _).trans (by kernel_rfl)
theorem C151(x0 x1:DV):zA 151 [x0,x1] =
 ifO (zP (hasT EE 6) [25,74] [x0,x1])
 ((L151_0a (fnId x1) (fnA x1) (fnC x1) (elems x0) (((List.length (elems x0)):Nat):Int)))
 (none) :=
 (zE (f:=151) (by kernel_rfl) (by kernel_rfl) (by kernel_rfl) [x0,x1]).trans (by kernel_rfl)
theorem C152(x0 x1:DV):zA 152 [x0,x1] =
 ifO (zP (hasT EE 6) [25,3] [x0,x1])
 (zC (zA 151 [(.sl 1 (elems x0)),(.fn 235 [] [(.dp (eI (getI x1)))])])
 (λr0=>ifO (hasT EE 6 25 r0)
 (some (.val (.sl 1 (elems r0))))
 (none))
 (λ_ _=>none))
 (none) :=
 (zE (f:=152) (by kernel_rfl) (by kernel_rfl) (by kernel_rfl) [x0,x1]).trans (by kernel_rfl)
theorem C153(x0 x1 x2:DV):zA 153 [x0,x1,x2] =
 ifO (zP (hasT EE 6) [59,81,251] [x0,x1,x2])
 (zC (zA 198 [])
 (λr0=>ifO (hasT EE 6 314 r0)
 (ifO (Option.isSome (jh (.str (getS (nth (flds x0) 0))) (keys r0) (vals r0)))
 (ifO (Option.isSome (Option.getD (jh (.str (getS (nth (flds x0) 0))) (keys r0) (vals r0)) (Option.none)))
 (ifO (hasT EE 6 312 (Option.getD (Option.getD (jh (.str (getS (nth (flds x0) 0))) (keys r0) (vals r0)) (Option.none)) .nl))
 (zC (zA 200 [(.agg 0 [(.str (getS (nth (flds x0) 0))),(.sl 1 (elems (nth (flds x0) 1))),(.sl 1 (elems (nth (flds x0) 2)))]),(.sl 2 (elems x1)),(.agg 9 [(eI (getI (nth (flds x2) 0))),(.agg 1 [(eI (getI (nth (flds (nth (flds x2) 1)) 0))),(eI (getI (nth (flds (nth (flds x2) 1)) 1)))])])])
 (λr1=>ifO (hasT EE 6 95 r1)
 (zC (zA 236 [(.sl 1 (List.map (cnE EE 25) (elems r1))),(.fn 237 [] [(.dp (.fn (fnId (nth (flds (Option.getD (Option.getD (jh (.str (getS (nth (flds x0) 0))) (keys r0) (vals r0)) (Option.none)) .nl)) 0)) (fnA (nth (flds (Option.getD (Option.getD (jh (.str (getS (nth (flds x0) 0))) (keys r0) (vals r0)) (Option.none)) .nl)) 0)) (fnC (nth (flds (Option.getD (Option.getD (jh (.str (getS (nth (flds x0) 0))) (keys r0) (vals r0)) (Option.none)) .nl)) 0))))])])
 (λr2=>ifO (hasT EE 6 25 r2)
 (some (.val (.sl 1 (elems r2))))
 (none))
 (λ_ _=>none))
 (none))
 (λ_ _=>none))
 (none))
 (zC (zA 200 [(.agg 0 [(.str (getS (nth (flds x0) 0))),(.sl 1 (elems (nth (flds x0) 1))),(.sl 1 (elems (nth (flds x0) 2)))]),(.sl 2 (elems x1)),(.agg 9 [(eI (getI (nth (flds x2) 0))),(.agg 1 [(eI (getI (nth (flds (nth (flds x2) 1)) 0))),(eI (getI (nth (flds (nth (flds x2) 1)) 1)))])])])
 (λr7=>ifO (hasT EE 6 95 r7)
 (zC (zA 236 [(.sl 1 (List.map (cnE EE 25) (elems r7))),(.fn 237 [] [(.dp .nilFn)])])
 (λr8=>ifO (hasT EE 6 25 r8)
 (some (.val (.sl 1 (elems r8))))
 (none))
 (λ_ _=>none))
 (none))
 (λ_ _=>none)))
 (none))
 (none))
 (λ_ _=>none))
 (none) :=
 (zE (f:=153) (by kernel_rfl) (by kernel_rfl) (by kernel_rfl) [x0,x1,x2]).trans (by kernel_rfl)
theorem C185(x0 x1 x2:DV):zA 185 [x0,x1,x2] =
 ifO (zP (hasT EE 6) [251,141,141] [x0,x1,x2])
 (zC (zA 187 [(.agg 9 [(eI (getI (nth (flds x0) 0))),(.agg 1 [(eI (getI (nth (flds (nth (flds x0) 1)) 0))),(eI (getI (nth (flds (nth (flds x0) 1)) 1)))])]),(.agg 1 [(eI (IntKind.wrap .i64 ((getI (nth (flds x2) 0)) - (getI (nth (flds x1) 0))))),(eI (IntKind.wrap .i64 ((getI (nth (flds x2) 1)) - (getI (nth (flds x1) 1)))))])])
 (λr0=>ifO (hasT EE 6 3 r0)
 (ifO ((Int.tmod (getI (nth (flds x0) 0)) (2:Int)) == (1:Int))
 (some (.val (.tup [(eI (Int.fdiv (getI r0) (2:Int))),(eI (ite ((IntKind.wrap .i64 ((0:Int) - (IntKind.wrap .i64 ((IntKind.wrap .i64 ((IntKind.wrap .i64 ((getI (nth (flds x2) 0)) - (getI (nth (flds x1) 0)))) * (getI (nth (flds (nth (flds x0) 1)) 1)))) - (IntKind.wrap .i64 ((IntKind.wrap .i64 ((getI (nth (flds x2) 1)) - (getI (nth (flds x1) 1)))) * (getI (nth (flds (nth (flds x0) 1)) 0))))))))>(IntKind.wrap .i64 ((IntKind.wrap .i64 ((IntKind.wrap .i64 ((getI (nth (flds x2) 0)) - (getI (nth (flds x1) 0)))) * (getI (nth (flds (nth (flds x0) 1)) 1)))) - (IntKind.wrap .i64 ((IntKind.wrap .i64 ((getI (nth (flds x2) 1)) - (getI (nth (flds x1) 1)))) * (getI (nth (flds (nth (flds x0) 1)) 0))))))) (IntKind.wrap .i64 ((0:Int) - (IntKind.wrap .i64 ((IntKind.wrap .i64 ((IntKind.wrap .i64 ((getI (nth (flds x2) 0)) - (getI (nth (flds x1) 0)))) * (getI (nth (flds (nth (flds x0) 1)) 1)))) - (IntKind.wrap .i64 ((IntKind.wrap .i64 ((getI (nth (flds x2) 1)) - (getI (nth (flds x1) 1)))) * (getI (nth (flds (nth (flds x0) 1)) 0)))))))) (IntKind.wrap .i64 ((IntKind.wrap .i64 ((IntKind.wrap .i64 ((getI (nth (flds x2) 0)) - (getI (nth (flds x1) 0)))) * (getI (nth (flds (nth (flds x0) 1)) 1)))) - (IntKind.wrap .i64 ((IntKind.wrap .i64 ((getI (nth (flds x2) 1)) - (getI (nth (flds x1) 1)))) * (getI (nth (flds (nth (flds x0) 1)) 0))))))))])))
 (some (.val (.tup [(eI (getI r0)),(eI (ite ((IntKind.wrap .i64 ((0:Int) - (IntKind.wrap .i64 ((IntKind.wrap .i64 ((IntKind.wrap .i64 ((getI (nth (flds x2) 0)) - (getI (nth (flds x1) 0)))) * (getI (nth (flds (nth (flds x0) 1)) 1)))) - (IntKind.wrap .i64 ((IntKind.wrap .i64 ((getI (nth (flds x2) 1)) - (getI (nth (flds x1) 1)))) * (getI (nth (flds (nth (flds x0) 1)) 0))))))))>(IntKind.wrap .i64 ((IntKind.wrap .i64 ((IntKind.wrap .i64 ((getI (nth (flds x2) 0)) - (getI (nth (flds x1) 0)))) * (getI (nth (flds (nth (flds x0) 1)) 1)))) - (IntKind.wrap .i64 ((IntKind.wrap .i64 ((getI (nth (flds x2) 1)) - (getI (nth (flds x1) 1)))) * (getI (nth (flds (nth (flds x0) 1)) 0))))))) (IntKind.wrap .i64 ((0:Int) - (IntKind.wrap .i64 ((IntKind.wrap .i64 ((IntKind.wrap .i64 ((getI (nth (flds x2) 0)) - (getI (nth (flds x1) 0)))) * (getI (nth (flds (nth (flds x0) 1)) 1)))) - (IntKind.wrap .i64 ((IntKind.wrap .i64 ((getI (nth (flds x2) 1)) - (getI (nth (flds x1) 1)))) * (getI (nth (flds (nth (flds x0) 1)) 0)))))))) (IntKind.wrap .i64 ((IntKind.wrap .i64 ((IntKind.wrap .i64 ((getI (nth (flds x2) 0)) - (getI (nth (flds x1) 0)))) * (getI (nth (flds (nth (flds x0) 1)) 1)))) - (IntKind.wrap .i64 ((IntKind.wrap .i64 ((getI (nth (flds x2) 1)) - (getI (nth (flds x1) 1)))) * (getI (nth (flds (nth (flds x0) 1)) 0))))))))]))))
 (none))
 (λ_ _=>none))
 (none) :=
 (zE (f:=185) (by kernel_rfl) (by kernel_rfl) (by kernel_rfl) [x0,x1,x2]).trans (by kernel_rfl)
theorem C186(x0 x1 x2:DV):zA 186 [x0,x1,x2] =
 ifO (zP (hasT EE 6) [59,3,3] [x0,x1,x2])
 (ifO (decide ((getI x1)<(1:Int)))
 (some (.val (eI 0)))
 (ifO (decide ((getI x1)>(((List.length (elems (nth (flds x0) 1))):Nat):Int)))
 (some (.val (eI 0)))
 (ifO (decide (((0:Int)<=(IntKind.wrap .i64 ((getI x1) - (1:Int))))/\((IntKind.wrap .i64 ((getI x1) - (1:Int)))<(((List.length (elems (nth (flds x0) 2))):Nat):Int))))
 (ifO (hasT EE 6 3 (nth (elems (nth (flds x0) 2)) (Int.toNat (IntKind.wrap .i64 ((getI x1) - (1:Int))))))
 (ifO (decide ((getI x2)>(getI (nth (elems (nth (flds x0) 2)) (Int.toNat (IntKind.wrap .i64 ((getI x1) - (1:Int))))))))
 (some (.val (eI 0)))
 (ifO (decide (((0:Int)<=(IntKind.wrap .i64 ((getI x1) - (1:Int))))/\((IntKind.wrap .i64 ((getI x1) - (1:Int)))<(((List.length (elems (nth (flds x0) 1))):Nat):Int))))
 (ifO (hasT EE 6 3 (nth (elems (nth (flds x0) 1)) (Int.toNat (IntKind.wrap .i64 ((getI x1) - (1:Int))))))
 (some (.val (eI (getI (nth (elems (nth (flds x0) 1)) (Int.toNat (IntKind.wrap .i64 ((getI x1) - (1:Int)))))))))
 (none))
 (none)))
 (none))
 (none))))
 (none) :=
 (zE (f:=186) (by kernel_rfl) (by kernel_rfl) (by kernel_rfl) [x0,x1,x2]).trans (by kernel_rfl)
theorem C187(x0 x1:DV):zA 187 [x0,x1] =
 ifO (zP (hasT EE 6) [251,141] [x0,x1])
 (some (.val (eI (IntKind.wrap .i64 ((IntKind.wrap .i64 ((getI (nth (flds x1) 0)) * (getI (nth (flds (nth (flds x0) 1)) 0))))+(IntKind.wrap .i64 ((getI (nth (flds x1) 1)) * (getI (nth (flds (nth (flds x0) 1)) 1)))))))))
 (none) :=
 (zE (f:=187) (by kernel_rfl) (by kernel_rfl) (by kernel_rfl) [x0,x1]).trans (by kernel_rfl)
theorem C198:zA 198 [] =
 some (.val (.mp [(.str (bs [103,114,101,97,116,101,115,116])),(.str (bs [115,113,117,97,114,101,115])),(.str (bs [115,117,109]))] [(.agg 12 [(.fn 262 [] [])]),(.agg 12 [(.fn 264 [] [])]),(.agg 12 [(.fn 231 [] [])])])) :=
 (zE (f:=198) (by kernel_rfl) (by kernel_rfl) (by kernel_rfl) []).trans (by kernel_rfl)
theorem C199(x0 x1 x2:DV):zA 199 [x0,x1,x2] =
 ifO (zP (hasT EE 6) [58,59,3] [x0,x1,x2])
 (zC (zA 158 [(.agg 0 [(.str (getS (nth (flds x0) 0))),(eI (getI (nth (flds x0) 1))),(.sl 3 (elems (nth (flds x0) 2)))])])
 (λr0=>ifO (hasT EE 6 46 r0)
 (zC (zA 75 [(.agg 0 [(.str (getS (nth (flds x1) 0))),(.sl 1 (elems (nth (flds x1) 1))),(.sl 1 (elems (nth (flds x1) 2)))])])
 (λr1=>ifO (hasT EE 6 46 r1)
 (zC (zA 148 [(.sl 1 [(eI (getI r0)),(eI (getI r1))])])
 (λr2=>ifO (hasT EE 6 46 r2)
 (ifO (bne (getI r2) 0)
 (some (.val (.tup [(.agg 9 [(eI 0),(.agg 1 [(eI 0),(eI 0)])]),(eI (getI r2))])))
 (zC (zA 147 [(eI (getI x2))])
 (λr3=>ifO ((DV.isTup r3) && (zP (hasT EE 6) [251,46] (tups r3)))
 (some (.val (.tup [(.agg 9 [(eI (getI (nth (flds (nth (tups r3) 0)) 0))),(.agg 1 [(eI (getI (nth (flds (nth (flds (nth (tups r3) 0)) 1)) 0))),(eI (getI (nth (flds (nth (flds (nth (tups r3) 0)) 1)) 1)))])]),(eI (getI (nth (tups r3) 1)))])))
 (none))
 (λ_ _=>none)))
 (none))
 (λ_ _=>none))
 (none))
 (λ_ _=>none))
 (none))
 (λ_ _=>none))
 (none) :=
 (zE (f:=199) (by kernel_rfl) (by kernel_rfl) (by kernel_rfl) [x0,x1,x2]).trans (by kernel_rfl)
def S232_0a(v0:Nat)(v1 v2 v3:List DV)(v4:Int):St :=
 stOf 22 [(1,(.d (.fn v0 v1 v2))),(5,(.d .nl)),(8,(.d (.sl 3 v3))),(9,(.d (eI v4))),(10,(.d (eI 0)))] []
noncomputable def L232_0a(v0:Nat)(v1 v2 v3:List DV)(v4:Int):Option CR:=goQ 232 0 (S232_0a v0 v1 v2 v3 v4)
def S232_0b(v0:Nat)(v1 v2 v3 v4:List DV)(v5 v6:Int):St :=
 stOf 22 [(1,(.d (.fn v0 v1 v2))),(5,(.own 19 0 (List.length v3) 2)),(8,(.d (.sl 3 v4))),(9,(.d (eI v5))),(10,(.d (eI v6)))] [(19,(.mk false (.dc 2 v3)))]
noncomputable def L232_0b(v0:Nat)(v1 v2 v3 v4:List DV)(v5 v6:Int):Option CR:=goQ 232 0 (S232_0b v0 v1 v2 v3 v4 v5 v6)
theorem L232_0a_eq(v0:Nat)(v1 v2 v3:List DV)(v4:Int):L232_0a v0 v1 v2 v3 v4 =
 ifO (decide ((0:Int)<v4))
 (ifO (decide (((0:Int)<=(0:Int))/\((0:Int)<(((List.length v3):Nat):Int))))
 (ifO (hasT EE 6 176 (nth v3 0))
 (zC (zA v0 (z1 EE v0 ((v1++[(.agg 9 [(.str (getS (nth (flds (nth v3 0)) 0))),(.agg 1 [(eI (getI (nth (flds (nth (flds (nth v3 0)) 1)) 0))),(eI (getI (nth (flds (nth (flds (nth v3 0)) 1)) 1)))])])])++v2)))
 (λr0=>ifO (hasT EE 6 141 r0)
 ((L232_0b v0 v1 v2 [(.agg 1 [(eI (getI (nth (flds r0) 0))),(eI (getI (nth (flds r0) 1)))])] v3 v4 (1:Int)))
 (none))
 (λ_ _=>none))
 (none))
 (none))
 (some (.val (.sl 2 []))) :=
 (zU 232 0 _).trans (by kernel_rfl)
theorem L232_0b_eq(v0:Nat)(v1 v2 v3 v4:List DV)(v5 v6:Int):L232_0b v0 v1 v2 v3 v4 v5 v6 =
 ifO (decide (v6<v5))
 (ifO (decide (((0:Int)<=v6)/\(v6<(((List.length v4):Nat):Int))))
 (ifO (hasT EE 6 176 (nth v4 (Int.toNat v6)))
 (zC (zA v0 (z1 EE v0 ((v1++[(.agg 9 [(.str (getS (nth (flds (nth v4 (Int.toNat v6))) 0))),(.agg 1 [(eI (getI (nth (flds (nth (flds (nth v4 (Int.toNat v6))) 1)) 0))),(eI (getI (nth (flds (nth (flds (nth v4 (Int.toNat v6))) 1)) 1)))])])])++v2)))
 (λr3=>ifO (hasT EE 6 141 r3)
 (ifO (decide ((List.length v3)=(List.length v3)))
 (ifO (decide ((((2 * ((List.length v3)+1))+200) * 16)<=281474976710656))
 ((L232_0b v0 v1 v2 (v3++[(.agg 1 [(eI (getI (nth (flds r3) 0))),(eI (getI (nth (flds r3) 1)))])]) v4 v5 (IntKind.wrap .i64 (v6+(1:Int)))))
 (none))
 (none))
 (none))
 (λ_ _=>none))
 (none))
 (none))
 (ifO (decide ((0+(List.length v3))<=(List.length v3)))
 (some (.val (.sl 2 (List.take (List.length v3) (List.drop 0 v3)))))
 (none)) :=
 (zU 232 0 _).trans (by kernel_rfl)
theorem C232(x0 x1:DV):zA 232 [x0,x1] =
 ifO (zP (hasT EE 6) [56,349] [x0,x1])
 ((L232_0a (fnId x1) (fnA x1) (fnC x1) (elems x0) (((List.length (elems x0)):Nat):Int)))
 (none) :=
 (zE (f:=232) (by kernel_rfl) (by kernel_rfl) (by kernel_rfl) [x0,x1]).trans (by kernel_rfl)
theorem C233(x0:DV):zA 233 [x0] =
 ifO (zP (hasT EE 6) [176] [x0])
 (some (.val (.agg 1 [(eI (getI (nth (flds (nth (flds x0) 1)) 0))),(eI (getI (nth (flds (nth (flds x0) 1)) 1)))])))
 (none) :=
 (zE (f:=233) (by kernel_rfl) (by kernel_rfl) (by kernel_rfl) [x0]).trans (by kernel_rfl)
theorem C235(x0 x1:DV):zA 235 [x0,x1] =
 ifO (((zP (hasT EE 6) [3] [x0]) && true) && (List.all [x1] isDp))
 (ifO (hasT EE 6 3 (undp x1))
 (some (.val (eI (IntKind.wrap .i64 ((getI (undp x1)) * (IntKind.wrap .i64 ((256:Int) - (getI x0))))))))
 (none))
 (none) :=
 (zE (f:=235) (by kernel_rfl) (by kernel_rfl) (by kernel_rfl) [x0,x1]).trans (by kernel_rfl)
def S236_0a(v0:Nat)(v1 v2 v3:List DV)(v4:Int):St :=
 stOf 22 [(1,(.d (.fn v0 v1 v2))),(5,(.d .nl)),(8,(.d (.sl 1 v3))),(9,(.d (eI v4))),(10,(.d (eI 0)))] []
noncomputable def L236_0a(v0:Nat)(v1 v2 v3:List DV)(v4:Int):Option CR:=goQ 236 0 (S236_0a v0 v1 v2 v3 v4)
def S236_0b(v0:Nat)(v1 v2 v3 v4:List DV)(v5 v6:Int):St :=
 stOf 22 [(1,(.d (.fn v0 v1 v2))),(5,(.own 19 0 (List.length v3) 1)),(8,(.d (.sl 1 v4))),(9,(.d (eI v5))),(10,(.d (eI v6)))] [(19,(.mk false (.dc 1 v3)))]
noncomputable def L236_0b(v0:Nat)(v1 v2 v3 v4:List DV)(v5 v6:Int):Option CR:=goQ 236 0 (S236_0b v0 v1 v2 v3 v4 v5 v6)
theorem L236_0a_eq(v0:Nat)(v1 v2 v3:List DV)(v4:Int):L236_0a v0 v1 v2 v3 v4 =
 ifO (decide ((0:Int)<v4))
 (ifO (decide (((0:Int)<=(0:Int))/\((0:Int)<(((List.length v3):Nat):Int))))
 (ifO (hasT EE 6 25 (nth v3 0))
 (zC (zA v0 (z1 EE v0 ((v1++[(.sl 1 (elems (nth v3 0)))])++v2)))
 (λr0=>ifO (hasT EE 6 3 r0)
 ((L236_0b v0 v1 v2 [(eI (getI r0))] v3 v4 (1:Int)))
 (none))
 (λ_ _=>none))
 (none))
 (none))
 (some (.val (.sl 1 []))) :=
 (zU 236 0 _).trans (by kernel_rfl)
theorem L236_0b_eq(v0:Nat)(v1 v2 v3 v4:List DV)(v5 v6:Int):L236_0b v0 v1 v2 v3 v4 v5 v6 =
 ifO (decide (v6<v5))
 (ifO (decide (((0:Int)<=v6)/\(v6<(((List.length v4):Nat):Int))))
 (ifO (hasT EE 6 25 (nth v4 (Int.toNat v6)))
 (zC (zA v0 (z1 EE v0 ((v1++[(.sl 1 (elems (nth v4 (Int.toNat v6))))])++v2)))
 (λr3=>ifO (hasT EE 6 3 r3)
 (ifO (decide ((List.length v3)=(List.length v3)))
 (ifO (decide ((((2 * ((List.length v3)+1))+200) * 8)<=281474976710656))
 ((L236_0b v0 v1 v2 (v3++[(eI (getI r3))]) v4 v5 (IntKind.wrap .i64 (v6+(1:Int)))))
 (none))
 (none))
 (none))
 (λ_ _=>none))
 (none))
 (none))
 (ifO (decide ((0+(List.length v3))<=(List.length v3)))
 (some (.val (.sl 1 (List.take (List.length v3) (List.drop 0 v3)))))
 (none)) :=
 (zU 236 0 _).trans (by kernel_rfl)
theorem C236(x0 x1:DV):zA 236 [x0,x1] =
 ifO (zP (hasT EE 6) [95,73] [x0,x1])
 ((L236_0a (fnId x1) (fnA x1) (fnC x1) (elems x0) (((List.length (elems x0)):Nat):Int)))
 (none) :=
 (zE (f:=236) (by kernel_rfl) (by kernel_rfl) (by kernel_rfl) [x0,x1]).trans (by kernel_rfl)
theorem C237(x0 x1:DV):zA 237 [x0,x1] =
 ifO (((zP (hasT EE 6) [25] [x0]) && true) && (List.all [x1] isDp))
 (ifO (hasT EE 6 73 (undp x1))
 (zC (zA (fnId (undp x1)) (z1 EE (fnId (undp x1)) (((fnA (undp x1))++[(.sl 1 (elems x0))])++(fnC (undp x1)))))
 (λr0=>ifO (hasT EE 6 3 r0)
 (some (.val (eI (ite ((getI r0)<(256:Int)) (getI r0) (256:Int)))))
 (none))
 (λ_ _=>none))
 (none))
 (none) :=
 (zE (f:=237) (by kernel_rfl) (by kernel_rfl) (by kernel_rfl) [x0,x1]).trans (by kernel_rfl)
theorem C262(x0:DV):zA 262 [x0] =
 ifO (zP (hasT EE 6) [25] [x0])
 (ifO (decide ((((2 * (1+(List.length (elems x0))))+200) * 8)<=281474976710656))
 (ifO (decide ((0+(List.length ([(eI 0)]++(elems x0))))<=(List.length ([(eI 0)]++(elems x0)))))
 (zC (zA 263 [(.sl 1 (List.take (List.length ([(eI 0)]++(elems x0))) (List.drop 0 ([(eI 0)]++(elems x0)))))])
 (λr0=>ifO (hasT EE 6 3 r0)
 (some (.val (eI (getI r0))))
 (none))
 (λ_ _=>none))
 (none))
 (none))
 (none) :=
 (zE (f:=262) (by kernel_rfl) (by kernel_rfl) (by kernel_rfl) [x0]).trans (by kernel_rfl)
def S263_0a(v0:List DV)(v1 v2:Int):St :=
 stOf 25 [(0,(.d (.sl 1 v0))),(3,(.d (eI v1))),(4,(.d (eI v2)))] []
noncomputable def L263_0a(v0:List DV)(v1 v2:Int):Option CR:=goQ 263 0 (S263_0a v0 v1 v2)
theorem L263_0a_eq(v0:List DV)(v1 v2:Int):L263_0a v0 v1 v2 =
 ifO (decide (v2<(((List.length v0):Nat):Int)))
 (ifO (decide (((0:Int)<=v2)/\(v2<(((List.length v0):Nat):Int))))
 (ifO (hasT EE 6 3 (nth v0 (Int.toNat v2)))
 ((L263_0a v0 (ite ((getI (nth v0 (Int.toNat v2)))>v1) (getI (nth v0 (Int.toNat v2))) v1) (IntKind.wrap .i64 (v2+(1:Int)))))
 (none))
 (none))
 (some (.val (eI v1))) :=
 (zU 263 0 _).trans (by kernel_rfl)
theorem C263(x0:DV):zA 263 [x0] =
 ifO (zP (hasT EE 6) [25] [x0])
 (ifO (decide ((((List.length (elems x0)):Nat):Int)<(1:Int)))
 (none)
 (ifO (decide (((0:Int)<=(0:Int))/\((0:Int)<(((List.length (elems x0)):Nat):Int))))
 (ifO (hasT EE 6 3 (nth (elems x0) 0))
 ((L263_0a (elems x0) (getI (nth (elems x0) 0)) (1:Int)))
 (none))
 (none)))
 (none) :=
 (zE (f:=263) (by kernel_rfl) (by kernel_rfl) (by kernel_rfl) [x0]).trans (by kernel_rfl)
theorem C264(x0:DV):zA 264 [x0] =
 ifO (zP (hasT EE 6) [25] [x0])
 (zC (zA 151 [(.sl 1 (elems x0)),(.fn 266 [] [])])
 (λr0=>ifO (hasT EE 6 25 r0)
 (zC (zA 231 [(.sl 1 (elems r0))])
 (λr1=>ifO (hasT EE 6 3 r1)
 (zC (zA 265 [(eI (getI r1))])
 (λr2=>ifO (hasT EE 6 3 r2)
 (some (.val (eI (getI r2))))
 (none))
 (λ_ _=>none))
 (none))
 (λ_ _=>none))
 (none))
 (λ_ _=>none))
 (none) :=
 (zE (f:=264) (by kernel_rfl) (by kernel_rfl) (by kernel_rfl) [x0]).trans (by kernel_rfl)
def S265_0a(v0 v1 v2:Int):St :=
 stOf 22 [(0,(.d (eI v0))),(3,(.d (eI v1))),(4,(.d (eI v2)))] []
noncomputable def L265_0a(v0 v1 v2:Int):Option CR:=goQ 265 0 (S265_0a v0 v1 v2)
theorem L265_0a_eq(v0 v1 v2:Int):L265_0a v0 v1 v2 =
 ifO (decide ((IntKind.wrap .i64 (v2 - v1))>(1:Int)))
 (ifO (decide ((IntKind.wrap .i64 ((IntKind.wrap .i64 (Int.tdiv (IntKind.wrap .i64 (v1+v2)) (2:Int))) * (IntKind.wrap .i64 (Int.tdiv (IntKind.wrap .i64 (v1+v2)) (2:Int)))))<=v0))
 ((L265_0a v0 (IntKind.wrap .i64 (Int.tdiv (IntKind.wrap .i64 (v1+v2)) (2:Int))) v2))
 ((L265_0a v0 v1 (IntKind.wrap .i64 (Int.tdiv (IntKind.wrap .i64 (v1+v2)) (2:Int))))))
 (some (.val (eI v1))) :=
 (zU 265 0 _).trans (by kernel_rfl)
theorem C265(x0:DV):zA 265 [x0] =
 ifO (zP (hasT EE 6) [3] [x0])
 ((L265_0a (getI x0) (0:Int) (65536:Int)))
 (none) :=
 (zE (f:=265) (by kernel_rfl) (by kernel_rfl) (by kernel_rfl) [x0]).trans (by kernel_rfl)
theorem C266(x0:DV):zA 266 [x0] =
 ifO (zP (hasT EE 6) [3] [x0])
 (some (.val (eI (IntKind.wrap .i64 ((getI x0) * (getI x0))))))
 (none) :=
 (zE (f:=266) (by kernel_rfl) (by kernel_rfl) (by kernel_rfl) [x0]).trans (by kernel_rfl)
theorem C146(x0:DV):zA 146 [x0] =
 ifO (zP (hasT EE 6) [58] [x0])
 (zC (zA 232 [(.sl 3 (elems (nth (flds x0) 2))),(.fn 233 [] [])])
 (λr0=>ifO (hasT EE 6 81 r0)
 (some (.val (.sl 2 (elems r0))))
 (none))
 (λ_ _=>none))
 (none) :=
 (zE (f:=146) (by kernel_rfl) (by kernel_rfl) (by kernel_rfl) [x0]).trans (by kernel_rfl)
theorem C144(x0:DV):zA 144 [x0] =
 ifO (zP (hasT EE 6) [62] [x0])
 (some (.val (.agg 13 [(.agg 0 [(.str (getS (nth (flds (nth (flds x0) 1)) 0))),(.sl 1 (elems (nth (flds (nth (flds x0) 1)) 1))),(.sl 1 (elems (nth (flds (nth (flds x0) 1)) 2)))]),(.agg 1 [(.sl 1 (elems (nth (flds (nth (flds x0) 2)) 0))),(eI (getI (nth (flds (nth (flds x0) 2)) 1)))]),(.agg 3 (flds (nth (flds x0) 3)))])))
 (none) :=
 (zE (f:=144) (by kernel_rfl) (by kernel_rfl) (by kernel_rfl) [x0]).trans (by kernel_rfl)
def S145_0a(v0:List DV)(v1 v2:Int)(v3:List DV)(v4:Int)(v5:ByteArray)(v6 v7 v8:List DV)(v9:Int):St :=
 stOf 65 [(1,(.d (.sl 2 v0))),(2,(.d (eI v1))),(3,(.ptr 3 413 0 [])),(7,(.d (eI v2))),(16,(.d (.agg 3 v3))),(17,(.d (eI v4)))] [(3,(.mk false (.dc 413 [(.agg 13 [(.agg 0 [(.str v5),(.sl 1 v6),(.sl 1 v7)]),(.agg 1 [(.sl 1 v8),(eI v9)]),(.agg 3 v3)])])))]
noncomputable def qi(v0:List DV)(v1 v2:Int)(v3:List DV)(v4:Int)(v5:ByteArray)(v6 v7 v8:List DV)(v9:Int):Option CR:=goQ 145 0 (S145_0a v0 v1 v2 v3 v4 v5 v6 v7 v8 v9)
def S145_1a(v0:List DV)(v1 v2:Int)(v3 v4:List DV)(v5:Int)(v6:List DV)(v7:Int)(v8:ByteArray)(v9 v10 v11:List DV)(v12:Int):St :=
 stOf 65 [(1,(.d (.sl 2 v0))),(2,(.d (eI v1))),(3,(.ptr 3 413 0 [])),(7,(.d (eI v2))),(12,(.d (.sl 1 v3))),(16,(.d (.agg 3 v4))),(17,(.d (eI v5))),(34,(.d (.agg 2 v6))),(35,(.d (eI v7)))] [(3,(.mk false (.dc 413 [(.agg 13 [(.agg 0 [(.str v8),(.sl 1 v9),(.sl 1 v10)]),(.agg 1 [(.sl 1 v11),(eI v12)]),(.agg 3 v4)])])))]
noncomputable def qh(v0:List DV)(v1 v2:Int)(v3 v4:List DV)(v5:Int)(v6:List DV)(v7:Int)(v8:ByteArray)(v9 v10 v11:List DV)(v12:Int):Option CR:=goQ 145 1 (S145_1a v0 v1 v2 v3 v4 v5 v6 v7 v8 v9 v10 v11 v12)
theorem L145_0a_eq(v0:List DV)(v1 v2:Int)(v3:List DV)(v4:Int)(v5:ByteArray)(v6 v7 v8:List DV)(v9:Int):qi v0 v1 v2 v3 v4 v5 v6 v7 v8 v9 =
 ifO (decide (v4<(8:Int)))
 (ifO (decide ((0:Int)<=v4))
 (ifO (isAg 3 (Int.toNat v4) (.agg 3 v3))
 (ifO (hasT EE 6 30 (nth v3 (Int.toNat v4)))
 (zC (zA 230 [])
 (λr0=>ifO (hasT EE 6 30 r0)
 (ifO (Option.isSome (eqOp EE 30 (.agg 2 (flds (nth v3 (Int.toNat v4)))) (.agg 2 (flds r0))))
 (ifO (ifO.match_1 (λy240=>Bool) false (λy297=>(!(Option.getD (eqOp EE 30 (.agg 2 (flds (nth v3 (Int.toNat v4)))) (.agg 2 (flds r0))) false))) (λy810=>(Option.getD (eqOp EE 30 (.agg 2 (flds (nth v3 (Int.toNat v4)))) (.agg 2 (flds r0))) false)))
 ((qi v0 v1 v2 v3 (IntKind.wrap .i64 (v4+(1:Int))) v5 v6 v7 v8 v9))
 (zC (zA 147 [(eI v4)])
 (λr1=>ifO ((DV.isTup r1) && (zP (hasT EE 6) [251,46] (tups r1)))
 (zC (zA 153 [(.agg 0 [(.str v5),(.sl 1 v6),(.sl 1 v7)]),(.sl 2 v0),(.agg 9 [(eI (getI (nth (flds (nth (tups r1) 0)) 0))),(.agg 1 [(eI (getI (nth (flds (nth (flds (nth (tups r1) 0)) 1)) 0))),(eI (getI (nth (flds (nth (flds (nth (tups r1) 0)) 1)) 1)))])])])
 (λr2=>ifO (hasT EE 6 25 r2)
 ((qh v0 v1 v2 (elems r2) v3 v4 (flds (nth v3 (Int.toNat v4))) (0:Int) v5 v6 v7 v8 v9))
 (none))
 (λ_ _=>none))
 (none))
 (λ_ _=>none)))
 (none))
 (none))
 (λ_ _=>none))
 (none))
 (none))
 (none))
 (some (.val (eI v2))) :=
 (zU 145 0 _).trans (by kernel_rfl)
theorem L145_1a_eq(v0:List DV)(v1 v2:Int)(v3 v4:List DV)(v5:Int)(v6:List DV)(v7:Int)(v8:ByteArray)(v9 v10 v11:List DV)(v12:Int):qh v0 v1 v2 v3 v4 v5 v6 v7 v8 v9 v10 v11 v12 =
 ifO (decide (v7<(51:Int)))
 (ifO (decide ((0:Int)<=v7))
 (ifO (isAg 2 (Int.toNat v7) (.agg 2 v6))
 (ifO (hasT EE 6 3 (nth v6 (Int.toNat v7)))
 (ifO (decide ((getI (nth v6 (Int.toNat v7)))>(0:Int)))
 (ifO (decide (v7<v12))
 (zC (zA 152 [(.sl 1 v3),(eI (IntKind.wrap .i64 (v7+v1)))])
 (λr9=>ifO (hasT EE 6 25 r9)
 (zC (zA 151 [(.sl 1 (elems r9)),(.fn 150 [(.agg 1 [(.sl 1 v11),(eI v12)])] [])])
 (λr10=>ifO (hasT EE 6 25 r10)
 (zC (zA 231 [(.sl 1 (elems r10))])
 (λr11=>ifO (hasT EE 6 3 r11)
 ((qh v0 v1 (IntKind.wrap .i64 (v2+(IntKind.wrap .i64 ((getI (nth v6 (Int.toNat v7))) * (getI r11))))) v3 v4 v5 v6 (IntKind.wrap .i64 (v7+(1:Int))) v8 v9 v10 v11 v12))
 (none))
 (λ_ _=>none))
 (none))
 (λ_ _=>none))
 (none))
 (λ_ _=>none))
 ((qh v0 v1 v2 v3 v4 v5 v6 (IntKind.wrap .i64 (v7+(1:Int))) v8 v9 v10 v11 v12)))
 ((qh v0 v1 v2 v3 v4 v5 v6 (IntKind.wrap .i64 (v7+(1:Int))) v8 v9 v10 v11 v12)))
 (none))
 (none))
 (none))
 ((qi v0 v1 v2 v4 (IntKind.wrap .i64 (v5+(1:Int))) v8 v9 v10 v11 v12)) :=
 (zU 145 1 _).trans (by kernel_rfl)
theorem C145(x0 x1 x2:DV):zA 145 [x0,x1,x2] =
 ifO (zP (hasT EE 6) [246,81,3] [x0,x1,x2])
 ((qi (elems x1) (getI x2) (0:Int) (flds (nth (flds x0) 2)) (0:Int) (getS (nth (flds (nth (flds x0) 0)) 0)) (elems (nth (flds (nth (flds x0) 0)) 1)) (elems (nth (flds (nth (flds x0) 0)) 2)) (elems (nth (flds (nth (flds x0) 1)) 0)) (getI (nth (flds (nth (flds x0) 1)) 1))))
 (none) :=
 (zE (f:=145) (by kernel_rfl) (by kernel_rfl) (by kernel_rfl) [x0,x1,x2]).trans (by kernel_rfl)
theorem C230:zA 230 [] =
 some (.val (.agg 2 (List.replicate (α:=DV) 51 (eI 0)))) :=
 (zE (f:=230) (by kernel_rfl) (by kernel_rfl) (by kernel_rfl) []).trans (by kernel_rfl)
theorem C202(x0:DV):zA 202 [x0] =
 ifO (zP (hasT EE 6) [246] [x0])
 (some (.val (.agg 13 [(.agg 0 [(.str (bs [115,117,109])),(.sl 1 [(eI 0)]),(.sl 1 [(eI 0)])]),(.agg 1 [(.sl 1 (elems (nth (flds (nth (flds x0) 1)) 0))),(eI (getI (nth (flds (nth (flds x0) 1)) 1)))]),(.agg 3 (flds (nth (flds x0) 2)))])))
 (none) :=
 (zE (f:=202) (by kernel_rfl) (by kernel_rfl) (by kernel_rfl) [x0]).trans (by kernel_rfl)
end Go.Am
namespace Go.Am
open Go.Proofs
open Go
variable[OO]
def S158_0a(v0:Int)(v1:List DV)(v2 v3:Int)(v4:ByteArray)(v5:Int)(v6 v7:List DV):St :=
 stOf 76 [(1,(.ptr 1 3 0 [])),(4,(.omp 26)),(5,(.d (eI v0))),(28,(.d (.sl 3 v1))),(29,(.d (eI v2))),(30,(.d (eI v3)))] [(1,(.mk false (.dc 3 [(.agg 0 [(.str v4),(eI v5),(.sl 3 v1)])]))),(26,(.mk false (.mp v6 v7)))]
noncomputable def Qz(v0:Int)(v1:List DV)(v2 v3:Int)(v4:ByteArray)(v5:Int)(v6 v7:List DV):Option CR:=goQ 158 0 (S158_0a v0 v1 v2 v3 v4 v5 v6 v7)
def S158_1a(v0:Int)(v1:List DV)(v2 v3:Int)(v4:List DV)(v5 v6:Int)(v7:ByteArray)(v8:Int)(v9:ByteArray)(v10 v11:Int)(v12 v13:List DV):St :=
 stOf 76 [(1,(.ptr 1 3 0 [])),(4,(.omp 26)),(5,(.d (eI v0))),(7,(.ptr 7 3 0 [])),(28,(.d (.sl 3 v1))),(29,(.d (eI v2))),(30,(.d (eI v3))),(56,(.d (.sl 3 v4))),(57,(.d (eI v5))),(58,(.d (eI v6)))] [(1,(.mk false (.dc 3 [(.agg 0 [(.str v7),(eI v8),(.sl 3 v1)])]))),(7,(.mk false (.dc 3 [(.agg 9 [(.str v9),(.agg 1 [(eI v10),(eI v11)])])]))),(26,(.mk false (.mp v12 v13)))]
noncomputable def qg(v0:Int)(v1:List DV)(v2 v3:Int)(v4:List DV)(v5 v6:Int)(v7:ByteArray)(v8:Int)(v9:ByteArray)(v10 v11:Int)(v12 v13:List DV):Option CR:=goQ 158 1 (S158_1a v0 v1 v2 v3 v4 v5 v6 v7 v8 v9 v10 v11 v12 v13)
theorem L158_0a_eq(v0:Int)(v1:List DV)(v2 v3:Int)(v4:ByteArray)(v5:Int)(v6 v7:List DV):Qz v0 v1 v2 v3 v4 v5 v6 v7 =
 ifO (decide (v3<v2))
 (ifO (decide (((0:Int)<=v3)/\(v3<(((List.length v1):Nat):Int))))
 (ifO (hasT EE 6 176 (nth v1 (Int.toNat v3)))
 (zC (zA 224 [(.str (getS (nth (flds (nth v1 (Int.toNat v3))) 0)))])
 (λr12=>ifO (hasT EE 6 46 r12)
 (zC (zA 239 [(.agg 1 [(eI (getI (nth (flds (nth (flds (nth v1 (Int.toNat v3))) 1)) 0))),(eI (getI (nth (flds (nth (flds (nth v1 (Int.toNat v3))) 1)) 1)))])])
 (λr13=>ifO (hasT EE 6 46 r13)
 (ifO (Option.isSome (jh (.str (getS (nth (flds (nth v1 (Int.toNat v3))) 0))) v6 v7))
 (ifO (Option.isSome (Option.getD (jh (.str (getS (nth (flds (nth v1 (Int.toNat v3))) 0))) v6 v7) (Option.none)))
 (ifO (hasT EE 6 4 (Option.getD (Option.getD (jh (.str (getS (nth (flds (nth v1 (Int.toNat v3))) 0))) v6 v7) (Option.none)) .nl))
 (zC (zA 136 [(.bool (getB (Option.getD (Option.getD (jh (.str (getS (nth (flds (nth v1 (Int.toNat v3))) 0))) v6 v7) (Option.none)) .nl))),(eI 9)])
 (λr14=>ifO (hasT EE 6 46 r14)
 (zC (zA 134 [(.sl 1 [(eI (getI r12)),(eI (getI r13)),(eI (getI r14))])])
 (λr15=>ifO (hasT EE 6 46 r15)
 (ifO (bne (getI r15) 0)
 (some (.val (eI (getI r15))))
 (ifO (Option.isSome (putK (.str (getS (nth (flds (nth v1 (Int.toNat v3))) 0))) (.bool true) v6 v7))
 (ifO (decide ((0:Int)<=v3))
 (ifO (decide ((0<=(Int.toNat v3))/\((Int.toNat v3)<=(List.length v1))))
 ((qg (getI r15) v1 v2 v3 (List.drop 0 (List.take (Int.toNat v3) v1)) (((List.length (List.drop 0 (List.take (Int.toNat v3) v1))):Nat):Int) (0:Int) v4 v5 (getS (nth (flds (nth v1 (Int.toNat v3))) 0)) (getI (nth (flds (nth (flds (nth v1 (Int.toNat v3))) 1)) 0)) (getI (nth (flds (nth (flds (nth v1 (Int.toNat v3))) 1)) 1)) (Prod.fst (Option.getD (putK (.str (getS (nth (flds (nth v1 (Int.toNat v3))) 0))) (.bool true) v6 v7) (Prod.mk [] []))) (Prod.snd (Option.getD (putK (.str (getS (nth (flds (nth v1 (Int.toNat v3))) 0))) (.bool true) v6 v7) (Prod.mk [] [])))))
 (none))
 (none))
 (none)))
 (none))
 (λ_ _=>none))
 (none))
 (λ_ _=>none))
 (none))
 (zC (zA 136 [(.bool false),(eI 9)])
 (λr20=>ifO (hasT EE 6 46 r20)
 (zC (zA 134 [(.sl 1 [(eI (getI r12)),(eI (getI r13)),(eI (getI r20))])])
 (λr21=>ifO (hasT EE 6 46 r21)
 (ifO (bne (getI r21) 0)
 (some (.val (eI (getI r21))))
 (ifO (Option.isSome (putK (.str (getS (nth (flds (nth v1 (Int.toNat v3))) 0))) (.bool true) v6 v7))
 (ifO (decide ((0:Int)<=v3))
 (ifO (decide ((0<=(Int.toNat v3))/\((Int.toNat v3)<=(List.length v1))))
 ((qg (getI r21) v1 v2 v3 (List.drop 0 (List.take (Int.toNat v3) v1)) (((List.length (List.drop 0 (List.take (Int.toNat v3) v1))):Nat):Int) (0:Int) v4 v5 (getS (nth (flds (nth v1 (Int.toNat v3))) 0)) (getI (nth (flds (nth (flds (nth v1 (Int.toNat v3))) 1)) 0)) (getI (nth (flds (nth (flds (nth v1 (Int.toNat v3))) 1)) 1)) (Prod.fst (Option.getD (putK (.str (getS (nth (flds (nth v1 (Int.toNat v3))) 0))) (.bool true) v6 v7) (Prod.mk [] []))) (Prod.snd (Option.getD (putK (.str (getS (nth (flds (nth v1 (Int.toNat v3))) 0))) (.bool true) v6 v7) (Prod.mk [] [])))))
 (none))
 (none))
 (none)))
 (none))
 (λ_ _=>none))
 (none))
 (λ_ _=>none)))
 (none))
 (none))
 (λ_ _=>none))
 (none))
 (λ_ _=>none))
 (none))
 (none))
 (some (.val (eI v0))) :=
 (zU 158 0 _).trans (by kernel_rfl)
theorem L158_1a_eq(v0:Int)(v1:List DV)(v2 v3:Int)(v4:List DV)(v5 v6:Int)(v7:ByteArray)(v8:Int)(v9:ByteArray)(v10 v11:Int)(v12 v13:List DV):qg v0 v1 v2 v3 v4 v5 v6 v7 v8 v9 v10 v11 v12 v13 =
 ifO (decide (v6<v5))
 (ifO (decide (((0:Int)<=v6)/\(v6<(((List.length v4):Nat):Int))))
 (ifO (hasT EE 6 176 (nth v4 (Int.toNat v6)))
 (zC (zA 240 [(.agg 1 [(eI v10),(eI v11)]),(.agg 1 [(eI (getI (nth (flds (nth (flds (nth v4 (Int.toNat v6))) 1)) 0))),(eI (getI (nth (flds (nth (flds (nth v4 (Int.toNat v6))) 1)) 1)))])])
 (λr30=>ifO (hasT EE 6 3 r30)
 (ifO (decide ((getI r30)<(IntKind.wrap .i64 (v8 * v8))))
 (some (.val (eI 15)))
 ((qg v0 v1 v2 v3 v4 v5 (IntKind.wrap .i64 (v6+(1:Int))) v7 v8 v9 v10 v11 v12 v13)))
 (none))
 (λ_ _=>none))
 (none))
 (none))
 ((Qz v0 v1 v2 (IntKind.wrap .i64 (v3+(1:Int))) v7 v8 v12 v13)) :=
 (zU 158 1 _).trans (by kernel_rfl)
theorem C158(x0:DV):zA 158 [x0] =
 ifO (zP (hasT EE 6) [58] [x0])
 (zC (zA 224 [(.str (getS (nth (flds x0) 0)))])
 (λr0=>ifO (hasT EE 6 46 r0)
 (zC (zA 225 [(eI (getI (nth (flds x0) 1))),(eI 1),(eI 1000)])
 (λr1=>ifO (hasT EE 6 46 r1)
 (zC (zA 136 [(.bool (decide ((((List.length (elems (nth (flds x0) 2))):Nat):Int)>(64:Int)))),(eI 5)])
 (λr2=>ifO (hasT EE 6 46 r2)
 (zC (zA 134 [(.sl 1 [(eI (getI r0)),(eI (getI r1)),(eI (getI r2))])])
 (λr3=>ifO (hasT EE 6 46 r3)
 (ifO (bne (getI r3) 0)
 (some (.val (eI (getI r3))))
 ((Qz (0:Int) (elems (nth (flds x0) 2)) (((List.length (elems (nth (flds x0) 2))):Nat):Int) (0:Int) (getS (nth (flds x0) 0)) (getI (nth (flds x0) 1)) [] [])))
 (none))
 (λ_ _=>none))
 (none))
 (λ_ _=>none))
 (none))
 (λ_ _=>none))
 (none))
 (λ_ _=>none))
 (none) :=
 (zE (f:=158) (by kernel_rfl) (by kernel_rfl) (by kernel_rfl) [x0]).trans (by kernel_rfl)
def S279_0a(v0:ByteArray)(v1:Nat):St :=
 stOf 49 [(0,(.d (.str v0))),(10,(.it 10))] [(10,(.mk false (.sit v0 v1)))]
noncomputable def JR(v0:ByteArray)(v1:Nat):Option CR:=goQ 279 0 (S279_0a v0 v1)
theorem zBW(v0:ByteArray)(v1:Nat):JR v0 v1 =
 ifO (decide (v1<(ByteArray.size v0)))
 (ifO (decide ((((Prod.fst (Utf8.decode v0 v1)):Nat):Int)>=(65:Int)))
 (ifO (decide ((((Prod.fst (Utf8.decode v0 v1)):Nat):Int)<=(90:Int)))
 ((JR v0 (v1+(Prod.snd (Utf8.decode v0 v1)))))
 (ifO (decide ((((Prod.fst (Utf8.decode v0 v1)):Nat):Int)>=(97:Int)))
 (ifO (!(decide ((((Prod.fst (Utf8.decode v0 v1)):Nat):Int)<=(122:Int))))
 (ifO (((v1:Nat):Int) == (0:Int))
 (some (.val (.bool false)))
 (ifO (bne (((Prod.fst (Utf8.decode v0 v1)):Nat):Int) (95:Int))
 (ifO (decide ((((Prod.fst (Utf8.decode v0 v1)):Nat):Int)<(48:Int)))
 (some (.val (.bool false)))
 (ifO (decide ((((Prod.fst (Utf8.decode v0 v1)):Nat):Int)>(57:Int)))
 (some (.val (.bool false)))
 ((JR v0 (v1+(Prod.snd (Utf8.decode v0 v1)))))))
 ((JR v0 (v1+(Prod.snd (Utf8.decode v0 v1)))))))
 ((JR v0 (v1+(Prod.snd (Utf8.decode v0 v1))))))
 (ifO (((v1:Nat):Int) == (0:Int))
 (some (.val (.bool false)))
 (ifO (bne (((Prod.fst (Utf8.decode v0 v1)):Nat):Int) (95:Int))
 (ifO (decide ((((Prod.fst (Utf8.decode v0 v1)):Nat):Int)<(48:Int)))
 (some (.val (.bool false)))
 (ifO (decide ((((Prod.fst (Utf8.decode v0 v1)):Nat):Int)>(57:Int)))
 (some (.val (.bool false)))
 ((JR v0 (v1+(Prod.snd (Utf8.decode v0 v1)))))))
 ((JR v0 (v1+(Prod.snd (Utf8.decode v0 v1)))))))))
 (ifO (decide ((((Prod.fst (Utf8.decode v0 v1)):Nat):Int)>=(97:Int)))
 (ifO (!(decide ((((Prod.fst (Utf8.decode v0 v1)):Nat):Int)<=(122:Int))))
 (ifO (((v1:Nat):Int) == (0:Int))
 (some (.val (.bool false)))
 (ifO (bne (((Prod.fst (Utf8.decode v0 v1)):Nat):Int) (95:Int))
 (ifO (decide ((((Prod.fst (Utf8.decode v0 v1)):Nat):Int)<(48:Int)))
 (some (.val (.bool false)))
 (ifO (decide ((((Prod.fst (Utf8.decode v0 v1)):Nat):Int)>(57:Int)))
 (some (.val (.bool false)))
 ((JR v0 (v1+(Prod.snd (Utf8.decode v0 v1)))))))
 ((JR v0 (v1+(Prod.snd (Utf8.decode v0 v1)))))))
 ((JR v0 (v1+(Prod.snd (Utf8.decode v0 v1))))))
 (ifO (((v1:Nat):Int) == (0:Int))
 (some (.val (.bool false)))
 (ifO (bne (((Prod.fst (Utf8.decode v0 v1)):Nat):Int) (95:Int))
 (ifO (decide ((((Prod.fst (Utf8.decode v0 v1)):Nat):Int)<(48:Int)))
 (some (.val (.bool false)))
 (ifO (decide ((((Prod.fst (Utf8.decode v0 v1)):Nat):Int)>(57:Int)))
 (some (.val (.bool false)))
 ((JR v0 (v1+(Prod.snd (Utf8.decode v0 v1)))))))
 ((JR v0 (v1+(Prod.snd (Utf8.decode v0 v1)))))))))
 (some (.val (.bool (!((ByteArray.toList v0) == []))))) :=
 (zU 279 0 _).trans (by kernel_rfl)
theorem C279(x0:DV):zA 279 [x0] =
 ifO (zP (hasT EE 6) [9] [x0])
 (ifO (decide ((((ByteArray.size (getS x0)):Nat):Int)>(24:Int)))
 (some (.val (.bool false)))
 ((JR (getS x0) 0)))
 (none) :=
 (zE (f:=279) (by kernel_rfl) (by kernel_rfl) (by kernel_rfl) [x0]).trans (by kernel_rfl)
def S130_0a(v0:ByteArray)(v1:Int):St :=
 stOf 50 [(0,(.d (.str v0))),(3,(.d (eI v1)))] []
noncomputable def Jk(v0:ByteArray)(v1:Int):Option CR:=goQ 130 0 (S130_0a v0 v1)
theorem L130_0a_eq(v0:ByteArray)(v1:Int):Jk v0 v1 =
 ifO (decide (v1<(((ByteArray.size v0):Nat):Int)))
 (ifO (decide (((0:Int)<=v1)/\(v1<(((ByteArray.size v0):Nat):Int))))
 (ifO (decide ((((UInt8.toNat (Option.getD (v0)[(Int.toNat v1)]? (0:UInt8))):Nat):Int)>=(97:Int)))
 (ifO (decide ((((UInt8.toNat (Option.getD (v0)[(Int.toNat v1)]? (0:UInt8))):Nat):Int)<=(122:Int)))
 ((Jk v0 (IntKind.wrap .i64 (v1+(1:Int)))))
 (ifO (decide ((((UInt8.toNat (Option.getD (v0)[(Int.toNat v1)]? (0:UInt8))):Nat):Int)>=(65:Int)))
 (ifO (decide ((((UInt8.toNat (Option.getD (v0)[(Int.toNat v1)]? (0:UInt8))):Nat):Int)<=(90:Int)))
 ((Jk v0 (IntKind.wrap .i64 (v1+(1:Int)))))
 (ifO (v1 == (0:Int))
 (some (.val (.bool false)))
 (ifO (bne (((UInt8.toNat (Option.getD (v0)[(Int.toNat v1)]? (0:UInt8))):Nat):Int) (95:Int))
 (ifO (decide ((((UInt8.toNat (Option.getD (v0)[(Int.toNat v1)]? (0:UInt8))):Nat):Int)<(48:Int)))
 (some (.val (.bool false)))
 (ifO (decide ((((UInt8.toNat (Option.getD (v0)[(Int.toNat v1)]? (0:UInt8))):Nat):Int)>(57:Int)))
 (some (.val (.bool false)))
 ((Jk v0 (IntKind.wrap .i64 (v1+(1:Int)))))))
 ((Jk v0 (IntKind.wrap .i64 (v1+(1:Int))))))))
 (ifO (v1 == (0:Int))
 (some (.val (.bool false)))
 (ifO (bne (((UInt8.toNat (Option.getD (v0)[(Int.toNat v1)]? (0:UInt8))):Nat):Int) (95:Int))
 (ifO (decide ((((UInt8.toNat (Option.getD (v0)[(Int.toNat v1)]? (0:UInt8))):Nat):Int)<(48:Int)))
 (some (.val (.bool false)))
 (ifO (decide ((((UInt8.toNat (Option.getD (v0)[(Int.toNat v1)]? (0:UInt8))):Nat):Int)>(57:Int)))
 (some (.val (.bool false)))
 ((Jk v0 (IntKind.wrap .i64 (v1+(1:Int)))))))
 ((Jk v0 (IntKind.wrap .i64 (v1+(1:Int)))))))))
 (ifO (decide ((((UInt8.toNat (Option.getD (v0)[(Int.toNat v1)]? (0:UInt8))):Nat):Int)>=(65:Int)))
 (ifO (decide ((((UInt8.toNat (Option.getD (v0)[(Int.toNat v1)]? (0:UInt8))):Nat):Int)<=(90:Int)))
 ((Jk v0 (IntKind.wrap .i64 (v1+(1:Int)))))
 (ifO (v1 == (0:Int))
 (some (.val (.bool false)))
 (ifO (bne (((UInt8.toNat (Option.getD (v0)[(Int.toNat v1)]? (0:UInt8))):Nat):Int) (95:Int))
 (ifO (decide ((((UInt8.toNat (Option.getD (v0)[(Int.toNat v1)]? (0:UInt8))):Nat):Int)<(48:Int)))
 (some (.val (.bool false)))
 (ifO (decide ((((UInt8.toNat (Option.getD (v0)[(Int.toNat v1)]? (0:UInt8))):Nat):Int)>(57:Int)))
 (some (.val (.bool false)))
 ((Jk v0 (IntKind.wrap .i64 (v1+(1:Int)))))))
 ((Jk v0 (IntKind.wrap .i64 (v1+(1:Int))))))))
 (ifO (v1 == (0:Int))
 (some (.val (.bool false)))
 (ifO (bne (((UInt8.toNat (Option.getD (v0)[(Int.toNat v1)]? (0:UInt8))):Nat):Int) (95:Int))
 (ifO (decide ((((UInt8.toNat (Option.getD (v0)[(Int.toNat v1)]? (0:UInt8))):Nat):Int)<(48:Int)))
 (some (.val (.bool false)))
 (ifO (decide ((((UInt8.toNat (Option.getD (v0)[(Int.toNat v1)]? (0:UInt8))):Nat):Int)>(57:Int)))
 (some (.val (.bool false)))
 ((Jk v0 (IntKind.wrap .i64 (v1+(1:Int)))))))
 ((Jk v0 (IntKind.wrap .i64 (v1+(1:Int)))))))))
 (none))
 (some (.val (.bool true))) :=
 (zU 130 0 _).trans (by kernel_rfl)
theorem C130(x0:DV):zA 130 [x0] =
 ifO (zP (hasT EE 6) [9] [x0])
 (ifO ((((ByteArray.size (getS x0)):Nat):Int) == (0:Int))
 (some (.val (.bool false)))
 (ifO (decide ((((ByteArray.size (getS x0)):Nat):Int)>(24:Int)))
 (some (.val (.bool false)))
 ((Jk (getS x0) (0:Int)))))
 (none) :=
 (zE (f:=130) (by kernel_rfl) (by kernel_rfl) (by kernel_rfl) [x0]).trans (by kernel_rfl)
theorem C234(x0:DV):zA 234 [x0] =
 ifO (zP (hasT EE 6) [3] [x0])
 (zC (zA 225 [(eI (getI x0)),(eI 0),(eI 7)])
 (λr0=>ifO (hasT EE 6 46 r0)
 (ifO (bne (getI r0) 0)
 (some (.val (.tup [(.agg 1 [(eI 0),(eI 0)]),(eI (getI r0))])))
 (ifO (decide ((0:Int)<=(getI x0)))
 (ifO (isAg 17 (Int.toNat (getI x0)) (.agg 17 [(.agg 1 [(eI 0),(eI (-1))]),(.agg 1 [(eI (-1)),(eI (-1))]),(.agg 1 [(eI (-1)),(eI 0)]),(.agg 1 [(eI (-1)),(eI 1)]),(.agg 1 [(eI 0),(eI 1)]),(.agg 1 [(eI 1),(eI 1)]),(.agg 1 [(eI 1),(eI 0)]),(.agg 1 [(eI 1),(eI (-1))])]))
 (ifO (hasT EE 6 141 (nth [(.agg 1 [(eI 0),(eI (-1))]),(.agg 1 [(eI (-1)),(eI (-1))]),(.agg 1 [(eI (-1)),(eI 0)]),(.agg 1 [(eI (-1)),(eI 1)]),(.agg 1 [(eI 0),(eI 1)]),(.agg 1 [(eI 1),(eI 1)]),(.agg 1 [(eI 1),(eI 0)]),(.agg 1 [(eI 1),(eI (-1))])] (Int.toNat (getI x0))))
 (some (.val (.tup [(.agg 1 [(eI (getI (nth (flds (nth [(.agg 1 [(eI 0),(eI (-1))]),(.agg 1 [(eI (-1)),(eI (-1))]),(.agg 1 [(eI (-1)),(eI 0)]),(.agg 1 [(eI (-1)),(eI 1)]),(.agg 1 [(eI 0),(eI 1)]),(.agg 1 [(eI 1),(eI 1)]),(.agg 1 [(eI 1),(eI 0)]),(.agg 1 [(eI 1),(eI (-1))])] (Int.toNat (getI x0)))) 0))),(eI (getI (nth (flds (nth [(.agg 1 [(eI 0),(eI (-1))]),(.agg 1 [(eI (-1)),(eI (-1))]),(.agg 1 [(eI (-1)),(eI 0)]),(.agg 1 [(eI (-1)),(eI 1)]),(.agg 1 [(eI 0),(eI 1)]),(.agg 1 [(eI 1),(eI 1)]),(.agg 1 [(eI 1),(eI 0)]),(.agg 1 [(eI 1),(eI (-1))])] (Int.toNat (getI x0)))) 1)))]),(eI 0)])))
 (none))
 (none))
 (none)))
 (none))
 (λ_ _=>none))
 (none) :=
 (zE (f:=234) (by kernel_rfl) (by kernel_rfl) (by kernel_rfl) [x0]).trans (by kernel_rfl)
end Go.Am
namespace Go.Am
open Go.Proofs
open Go
variable[OO]
def S134_0a(v0:List DV)(v1 v2:Int):St :=
 stOf 15 [(5,(.d (.sl 1 v0))),(6,(.d (eI v1))),(7,(.d (eI v2)))] []
noncomputable def L134_0a(v0:List DV)(v1 v2:Int):Option CR:=goQ 134 0 (S134_0a v0 v1 v2)
theorem L134_0a_eq(v0:List DV)(v1 v2:Int):L134_0a v0 v1 v2 =
 ifO (decide (v2<v1))
 (ifO (decide (((0:Int)<=v2)/\(v2<(((List.length v0):Nat):Int))))
 (ifO (hasT EE 6 46 (nth v0 (Int.toNat v2)))
 (ifO (bne (getI (nth v0 (Int.toNat v2))) (0:Int))
 (some (.val (eI (getI (nth v0 (Int.toNat v2))))))
 ((L134_0a v0 v1 (IntKind.wrap .i64 (v2+(1:Int))))))
 (none))
 (none))
 (some (.val (eI 0))) :=
 (zU 134 0 _).trans (by kernel_rfl)
theorem C134(x0:DV):zA 134 [x0] =
 ifO (zP (hasT EE 6) [290] [x0])
 ((L134_0a (elems x0) (((List.length (elems x0)):Nat):Int) (0:Int)))
 (none) :=
 (zE (f:=134) (by kernel_rfl) (by kernel_rfl) (by kernel_rfl) [x0]).trans (by kernel_rfl)
theorem C136(x0 x1:DV):zA 136 [x0,x1] =
 ifO (zP (hasT EE 6) [4,46] [x0,x1])
 (ifO (getB x0)
 (some (.val (eI (getI x1))))
 (some (.val (eI 0))))
 (none) :=
 (zE (f:=136) (by kernel_rfl) (by kernel_rfl) (by kernel_rfl) [x0,x1]).trans (by kernel_rfl)
def S148_0a(v0:List DV)(v1 v2:Int):St :=
 stOf 15 [(5,(.d (.sl 1 v0))),(6,(.d (eI v1))),(7,(.d (eI v2)))] []
noncomputable def L148_0a(v0:List DV)(v1 v2:Int):Option CR:=goQ 148 0 (S148_0a v0 v1 v2)
theorem L148_0a_eq(v0:List DV)(v1 v2:Int):L148_0a v0 v1 v2 =
 ifO (decide (v2<v1))
 (ifO (decide (((0:Int)<=v2)/\(v2<(((List.length v0):Nat):Int))))
 (ifO (hasT EE 6 46 (nth v0 (Int.toNat v2)))
 (ifO (bne (getI (nth v0 (Int.toNat v2))) (0:Int))
 (some (.val (eI (getI (nth v0 (Int.toNat v2))))))
 ((L148_0a v0 v1 (IntKind.wrap .i64 (v2+(1:Int))))))
 (none))
 (none))
 (some (.val (eI 0))) :=
 (zU 148 0 _).trans (by kernel_rfl)
theorem C148(x0:DV):zA 148 [x0] =
 ifO (zP (hasT EE 6) [290] [x0])
 ((L148_0a (elems x0) (((List.length (elems x0)):Nat):Int) (0:Int)))
 (none) :=
 (zE (f:=148) (by kernel_rfl) (by kernel_rfl) (by kernel_rfl) [x0]).trans (by kernel_rfl)
theorem C149(x0 x1 x2:DV):zA 149 [x0,x1,x2] =
 ifO (zP (hasT EE 6) [3,3,3] [x0,x1,x2])
 (ifO (decide ((getI x0)<(getI x1)))
 (zC (zA 169 [(.bool true),(eI 3)])
 (λr0=>ifO (hasT EE 6 46 r0)
 (some (.val (eI (getI r0))))
 (none))
 (λ_ _=>none))
 (zC (zA 169 [(.bool (decide ((getI x0)>(getI x2)))),(eI 3)])
 (λr3=>ifO (hasT EE 6 46 r3)
 (some (.val (eI (getI r3))))
 (none))
 (λ_ _=>none)))
 (none) :=
 (zE (f:=149) (by kernel_rfl) (by kernel_rfl) (by kernel_rfl) [x0,x1,x2]).trans (by kernel_rfl)
theorem C169(x0 x1:DV):zA 169 [x0,x1] =
 ifO (zP (hasT EE 6) [4,46] [x0,x1])
 (ifO (getB x0)
 (some (.val (eI (getI x1))))
 (some (.val (eI 0))))
 (none) :=
 (zE (f:=169) (by kernel_rfl) (by kernel_rfl) (by kernel_rfl) [x0,x1]).trans (by kernel_rfl)
theorem C224(x0:DV):zA 224 [x0] =
 ifO (zP (hasT EE 6) [9] [x0])
 (zC (zA 279 [(.str (getS x0))])
 (λr0=>ifO (hasT EE 6 4 r0)
 (zC (zA 136 [(.bool (!(getB r0))),(eI 8)])
 (λr1=>ifO (hasT EE 6 46 r1)
 (some (.val (eI (getI r1))))
 (none))
 (λ_ _=>none))
 (none))
 (λ_ _=>none))
 (none) :=
 (zE (f:=224) (by kernel_rfl) (by kernel_rfl) (by kernel_rfl) [x0]).trans (by kernel_rfl)
theorem C225(x0 x1 x2:DV):zA 225 [x0,x1,x2] =
 ifO (zP (hasT EE 6) [3,3,3] [x0,x1,x2])
 (ifO (decide ((getI x0)<(getI x1)))
 (zC (zA 136 [(.bool true),(eI 3)])
 (λr0=>ifO (hasT EE 6 46 r0)
 (some (.val (eI (getI r0))))
 (none))
 (λ_ _=>none))
 (zC (zA 136 [(.bool (decide ((getI x0)>(getI x2)))),(eI 3)])
 (λr3=>ifO (hasT EE 6 46 r3)
 (some (.val (eI (getI r3))))
 (none))
 (λ_ _=>none)))
 (none) :=
 (zE (f:=225) (by kernel_rfl) (by kernel_rfl) (by kernel_rfl) [x0,x1,x2]).trans (by kernel_rfl)
theorem C168(x0:DV):zA 168 [x0] =
 ifO (zP (hasT EE 6) [141] [x0])
 (zC (zA 149 [(eI (getI (nth (flds x0) 0))),(eI (-1000)),(eI 1000)])
 (λr0=>ifO (hasT EE 6 46 r0)
 (zC (zA 149 [(eI (getI (nth (flds x0) 1))),(eI (-1000)),(eI 1000)])
 (λr1=>ifO (hasT EE 6 46 r1)
 (zC (zA 148 [(.sl 1 [(eI (getI r0)),(eI (getI r1))])])
 (λr2=>ifO (hasT EE 6 46 r2)
 (some (.val (eI (getI r2))))
 (none))
 (λ_ _=>none))
 (none))
 (λ_ _=>none))
 (none))
 (λ_ _=>none))
 (none) :=
 (zE (f:=168) (by kernel_rfl) (by kernel_rfl) (by kernel_rfl) [x0]).trans (by kernel_rfl)
theorem C239(x0:DV):zA 239 [x0] =
 ifO (zP (hasT EE 6) [141] [x0])
 (zC (zA 225 [(eI (getI (nth (flds x0) 0))),(eI (-1000)),(eI 1000)])
 (λr0=>ifO (hasT EE 6 46 r0)
 (zC (zA 225 [(eI (getI (nth (flds x0) 1))),(eI (-1000)),(eI 1000)])
 (λr1=>ifO (hasT EE 6 46 r1)
 (zC (zA 134 [(.sl 1 [(eI (getI r0)),(eI (getI r1))])])
 (λr2=>ifO (hasT EE 6 46 r2)
 (some (.val (eI (getI r2))))
 (none))
 (λ_ _=>none))
 (none))
 (λ_ _=>none))
 (none))
 (λ_ _=>none))
 (none) :=
 (zE (f:=239) (by kernel_rfl) (by kernel_rfl) (by kernel_rfl) [x0]).trans (by kernel_rfl)
theorem C192(x0 x1:DV):zA 192 [x0,x1] =
 ifO (zP (hasT EE 6) [141,141] [x0,x1])
 (some (.val (eI (IntKind.wrap .i64 ((IntKind.wrap .i64 ((IntKind.wrap .i64 ((getI (nth (flds x0) 0)) - (getI (nth (flds x1) 0)))) * (IntKind.wrap .i64 ((getI (nth (flds x0) 0)) - (getI (nth (flds x1) 0))))))+(IntKind.wrap .i64 ((IntKind.wrap .i64 ((getI (nth (flds x0) 1)) - (getI (nth (flds x1) 1)))) * (IntKind.wrap .i64 ((getI (nth (flds x0) 1)) - (getI (nth (flds x1) 1)))))))))))
 (none) :=
 (zE (f:=192) (by kernel_rfl) (by kernel_rfl) (by kernel_rfl) [x0,x1]).trans (by kernel_rfl)
theorem C240(x0 x1:DV):zA 240 [x0,x1] =
 ifO (zP (hasT EE 6) [141,141] [x0,x1])
 (some (.val (eI (IntKind.wrap .i64 ((IntKind.wrap .i64 ((IntKind.wrap .i64 ((getI (nth (flds x0) 0)) - (getI (nth (flds x1) 0)))) * (IntKind.wrap .i64 ((getI (nth (flds x0) 0)) - (getI (nth (flds x1) 0))))))+(IntKind.wrap .i64 ((IntKind.wrap .i64 ((getI (nth (flds x0) 1)) - (getI (nth (flds x1) 1)))) * (IntKind.wrap .i64 ((getI (nth (flds x0) 1)) - (getI (nth (flds x1) 1)))))))))))
 (none) :=
 (zE (f:=240) (by kernel_rfl) (by kernel_rfl) (by kernel_rfl) [x0,x1]).trans (by kernel_rfl)
def S126_0a(v0 v1:List DV)(v2:Int):St :=
 stOf 26 [(0,(.d (.sl 1 v0))),(1,(.d (.sl 1 v1))),(5,(.d (eI v2)))] []
noncomputable def L126_0a(v0 v1:List DV)(v2:Int):Option CR:=goQ 126 0 (S126_0a v0 v1 v2)
theorem L126_0a_eq(v0 v1:List DV)(v2:Int):L126_0a v0 v1 v2 =
 ifO (decide (v2<(((List.length v0):Nat):Int)))
 (ifO (decide (((0:Int)<=v2)/\(v2<(((List.length v0):Nat):Int))))
 (ifO (hasT EE 6 3 (nth v0 (Int.toNat v2)))
 (ifO (decide (((0:Int)<=v2)/\(v2<(((List.length v1):Nat):Int))))
 (ifO (hasT EE 6 3 (nth v1 (Int.toNat v2)))
 (ifO (bne (getI (nth v0 (Int.toNat v2))) (getI (nth v1 (Int.toNat v2))))
 (some (.val (.bool false)))
 ((L126_0a v0 v1 (IntKind.wrap .i64 (v2+(1:Int))))))
 (none))
 (none))
 (none))
 (none))
 (some (.val (.bool true))) :=
 (zU 126 0 _).trans (by kernel_rfl)
theorem C126(x0 x1:DV):zA 126 [x0,x1] =
 ifO (zP (hasT EE 6) [25,25] [x0,x1])
 (ifO (bne (((List.length (elems x0)):Nat):Int) (((List.length (elems x1)):Nat):Int))
 (some (.val (.bool false)))
 ((L126_0a (elems x0) (elems x1) (0:Int))))
 (none) :=
 (zE (f:=126) (by kernel_rfl) (by kernel_rfl) (by kernel_rfl) [x0,x1]).trans (by kernel_rfl)
def S231_0a(v0:Int)(v1:List DV)(v2 v3:Int):St :=
 stOf 17 [(3,(.d (eI v0))),(6,(.d (.sl 1 v1))),(7,(.d (eI v2))),(8,(.d (eI v3)))] []
noncomputable def L231_0a(v0:Int)(v1:List DV)(v2 v3:Int):Option CR:=goQ 231 0 (S231_0a v0 v1 v2 v3)
theorem L231_0a_eq(v0:Int)(v1:List DV)(v2 v3:Int):L231_0a v0 v1 v2 v3 =
 ifO (decide (v3<v2))
 (ifO (decide (((0:Int)<=v3)/\(v3<(((List.length v1):Nat):Int))))
 (ifO (hasT EE 6 3 (nth v1 (Int.toNat v3)))
 ((L231_0a (IntKind.wrap .i64 (v0+(getI (nth v1 (Int.toNat v3))))) v1 v2 (IntKind.wrap .i64 (v3+(1:Int)))))
 (none))
 (none))
 (some (.val (eI v0))) :=
 (zU 231 0 _).trans (by kernel_rfl)
theorem C231(x0:DV):zA 231 [x0] =
 ifO (zP (hasT EE 6) [25] [x0])
 ((L231_0a (0:Int) (elems x0) (((List.length (elems x0)):Nat):Int) (0:Int)))
 (none) :=
 (zE (f:=231) (by kernel_rfl) (by kernel_rfl) (by kernel_rfl) [x0]).trans (by kernel_rfl)
end Go.Am
namespace Go.Am
open Go.Proofs
open Go
variable[OO]
@[simp] theorem c169(b:Bool)(e:Int):zA 169 [.bool b,eI e]=some (.val (eI (if b then e else 0))):=by rw[C169];simp;cases b <;> simp
@[simp] theorem c136(b:Bool)(e:Int):zA 136 [.bool b,eI e]=some (.val (eI (if b then e else 0))):=by rw[C136];simp;cases b <;> simp
@[simp] theorem c149(n a b:Int):zA 149 [eI n,eI a,eI b]=some (.val (eI (zV n a b))):=by rw[C149];simp[zG,zV];by_cases h:n<a <;> simp[h]
@[simp] theorem c225(n a b:Int):zA 225 [eI n,eI a,eI b]=some (.val (eI (zV n a b))):=by rw[C225];simp[zG,zV];by_cases h:n<a <;> simp[h]
theorem l148(l:List Int)(hl:l.length<=4611686018427387904):∀i,i<=l.length->L148_0a (l.map eI) l.length i=some (.val (eI (zL (l.drop i)))):=by
 apply down
 ·rw[L148_0a_eq];simp[zL]
 ·intro i hi ih;rw[L148_0a_eq,zT l i hi];have e1:(i:Int)<l.length:=by omega
  simp[e1,zI _ l i hi,zf,zL,wr (i+1) (by omega)]
  split
  ·exact_mod_cast ih
  ·rfl
@[simp] theorem c148(l:List Int)(hl:l.length<=4611686018427387904):zA 148 [.sl 1 (l.map eI)]=some (.val (eI (zL l))):=by rw[C148];simpa using l148 l hl 0 (Nat.zero_le _)
end Go.Am
namespace Go.Am
open Go.Proofs
open Go
variable[OO]
theorem byteN_lt(s:ByteArray)(i:Nat)(h:i<s.size):jj s i=(s[i]'h).toNat:=by unfold jj;rw[getElem?_pos s i h];rfl
theorem lt_not(c:Nat)(k:Int)(m:Nat)(h:k=m):decide (((c:Nat):Int)<k)=!decide (m<=c):=by
 subst h;by_cases h:m<=c
 ·simp[h]
 ·simp[h];omega
theorem gt_not(c:Nat)(k:Int)(m:Nat)(h:k=m):decide (((c:Nat):Int)>k)=!decide (c<=m):=by
 subst h;by_cases h:c<=m
 ·simp[h]
 ·simp[h];omega
theorem beq_nat(c:Nat)(k:Int)(m:Nat)(h:k=m):(((c:Nat):Int) == k)=(c == m):=by
 subst h;by_cases h:c=m
 ·subst h;simp
 ·have h1:(c == m)=false:=beq_eq_false_iff_ne.2 h;have h2:(((c:Nat):Int) == (m:Int))=false:=beq_eq_false_iff_ne.2 (by omega)
  rw[h1,h2]
theorem bne_nat(c:Nat)(k:Int)(m:Nat)(h:k=m):bne ((c:Nat):Int) k=!(c == m):=by unfold bne;rw[beq_nat c k m h]
theorem ge_is(c:Nat)(k:Int)(m:Nat)(h:k=m):decide (((c:Nat):Int)>=k)=decide (m<=c):=decide_eq_decide.2 (by omega)
theorem le_is(c:Nat)(k:Int)(m:Nat)(h:k=m):decide (((c:Nat):Int)<=k)=decide (c<=m):=decide_eq_decide.2 (by omega)
theorem l130(s:ByteArray)(hs:s.size<=1000):∀i,i<=s.size->Jk s i=some (.val (.bool (Yv s i (s.size - i)))):=by
 apply down
 ·rw[L130_0a_eq];simp[Yv]
 ·intro i hi ih;have e:s.size - i=(s.size - (i+1))+1:=by omega
  rw[L130_0a_eq,e,Yv,wr ((i:Int)+1) (by omega)]
  have e1:(i:Int)<s.size:=by omega
  have e2:((i:Int)+1)=((i+1:Nat):Int):=by omega
  rw[e2,ih];have e3:(UInt8.toNat (Option.getD (s)[(Int.toNat (i:Int))]? (0:UInt8)))=jj s i:=by simp[jj]
  rw[e3];have g1:=ge_is (jj s i) 97 97 rfl;have g2:=ge_is (jj s i) 65 65 rfl;have l1:=le_is (jj s i) 122 122 rfl;have l2:=le_is (jj s i) 90 90 rfl;have t1:=lt_not (jj s i) 48 48 rfl;have t2:=gt_not (jj s i) 57 57 rfl;have bn:=bne_nat (jj s i) 95 95 rfl;have z:=beq_nat i 0 0 rfl;have e4:decide ((0:Int)<=(i:Int)/\(i:Int)<((s.size:Nat):Int))=true:=by simp;omega
  have e5:decide ((i:Int)<((s.size:Nat):Int))=true:=by simp;omega
  simp only[e4,e5,zB,g1,g2,l1,l2,t1,t2,bn,z,okAt];generalize Yv s (i+1) (s.size - (i+1))=r;generalize decide (97<=jj s i)=b1;generalize decide (65<=jj s i)=b2;generalize decide (jj s i<=122)=b3;generalize decide (jj s i<=90)=b4;generalize decide (48<=jj s i)=b5;generalize decide (jj s i<=57)=b6;generalize (jj s i == 95)=b7;generalize (i == 0)=b8;cases b1 <;> cases b2 <;> cases b3 <;> cases b4 <;> cases b5 <;> cases b6 <;> cases b7 <;> cases b8 <;> rfl
theorem c130(s:ByteArray):zA 130 [.str s]=some (.val (.bool (jE s))):=by
 rw[C130];simp only[zG,zw];by_cases h0:s.size=0
 ·have hn:jE s=false:=by unfold jE;rw[decide_eq_false (show ¬0<s.size by omega)];rfl
  rw[hn];simp[h0]
 ·by_cases h1:s.size<=24
  ·have h2:¬((s.size:Int)>24):=by omega
   have h3:¬((s.size:Int)=0):=by omega
   have h4:0<s.size:=by omega
   have:=l130 s (by omega) 0 (Nat.zero_le _)
   simp only[Int.natCast_zero] at this;have hn:jE s=Yv s 0 s.size:=by unfold jE;rw[decide_eq_true h4,decide_eq_true h1];rfl
   have h5:s≠ByteArray.empty:=by rintro rfl;simp at h0
   rw[hn];simp[h2,h5,this]
  ·have h2:((s.size:Int)>24):=by omega
   have h5:s≠ByteArray.empty:=by rintro rfl;simp at h0
   simp[h2,h5,jE,h1]
theorem dec_low(s:ByteArray)(i:Nat)(h:i<s.size)(ha:jj s i<128):Utf8.decode s i=(jj s i,1):=by rw[byteN_lt s i h] at ha ⊢;exact decode_ascii s i h ha
theorem dec_high(s:ByteArray)(i:Nat)(h:i<s.size)(ha:128<=jj s i):128<=(Utf8.decode s i).1:=by rw[byteN_lt s i h] at ha;exact(decode_high s i h ha).1
theorem size_list(s:ByteArray):s.toList.length=s.size:=by rw[ByteArray.toList_eq];rfl
theorem l279(s:ByteArray)(hz:0<s.size):∀i,i<=s.size->JR s i=some (.val (.bool (Yv s i (s.size - i)))):=by
 apply down
 ·rw[zBW];have:s.toList≠[]:=by intro h;have:=size_list s;rw[h] at this;simp at this;omega
  simp[Yv,this]
 ·intro i hi ih;have e:s.size - i=(s.size - (i+1))+1:=by omega
  rw[zBW,e,Yv];have e1:decide (i<s.size)=true:=by simp[hi]
  by_cases hb:jj s i<128
  ·rw[dec_low s i hi hb];simp only;rw[ih];have g1:=ge_is (jj s i) 97 97 rfl;have g2:=ge_is (jj s i) 65 65 rfl;have l1:=le_is (jj s i) 122 122 rfl;have l2:=le_is (jj s i) 90 90 rfl;have t1:=lt_not (jj s i) 48 48 rfl;have t2:=gt_not (jj s i) 57 57 rfl;have bn:=bne_nat (jj s i) 95 95 rfl;have z:=beq_nat i 0 0 rfl;simp only[e1,zB,g1,g2,l1,l2,t1,t2,bn,z,okAt];generalize Yv s (i+1) (s.size - (i+1))=r;generalize decide (97<=jj s i)=b1;generalize decide (65<=jj s i)=b2;generalize decide (jj s i<=122)=b3;generalize decide (jj s i<=90)=b4;generalize decide (48<=jj s i)=b5;generalize decide (jj s i<=57)=b6;generalize (jj s i == 95)=b7;generalize (i == 0)=b8;cases b1 <;> cases b2 <;> cases b3 <;> cases b4 <;> cases b5 <;> cases b6 <;> cases b7 <;> cases b8 <;> rfl
  ·have hh:=dec_high s i hi (by omega)
   generalize Utf8.decode s i=d at hh ⊢;have g1:decide (((d.1:Nat):Int)>=97)=true:=by simp;omega
   have g2:decide (((d.1:Nat):Int)>=65)=true:=by simp;omega
   have l1:decide (((d.1:Nat):Int)<=122)=false:=by simp;omega
   have l2:decide (((d.1:Nat):Int)<=90)=false:=by simp;omega
   have t1:decide (((d.1:Nat):Int)<48)=false:=by simp;omega
   have t2:decide (((d.1:Nat):Int)>57)=true:=by simp;omega
   have bn:bne ((d.1:Nat):Int) 95=true:=by rw[bne_nat d.1 95 95 rfl];simp;omega
   have z:=beq_nat i 0 0 rfl;have hok:okAt i (jj s i)=false:=by simp[okAt];omega
   simp only[e1,zB,za,g1,g2,l1,l2,t1,t2,bn,z,hok,Bool.false_and,Bool.not_false];generalize (i == 0)=b8;cases b8 <;> rfl
theorem c279(s:ByteArray):zA 279 [.str s]=some (.val (.bool (jE s))):=by
 rw[C279];simp only[zG];by_cases h1:s.size<=24
 ·have h2:¬((s.size:Int)>24):=by omega
  by_cases h0:s.size=0
  ·have hl:s.toList=[]:=List.eq_nil_of_length_eq_zero (by rw[size_list];exact h0)
   have hn:jE s=false:=by unfold jE;rw[decide_eq_false (show ¬0<s.size by omega)];rfl
   have e:JR s 0=some (.val (.bool false)):=by rw[zBW];simp[h0,hl]
   rw[hn];simp[h2,e]
  ·have h4:0<s.size:=by omega
   have hn:jE s=Yv s 0 s.size:=by unfold jE;rw[decide_eq_true h4,decide_eq_true h1];rfl
   rw[hn];simp[h2,l279 s h4 0 (Nat.zero_le _)]
 ·have h2:((s.size:Int)>24):=by omega
  simp[h2,jE,h1]
@[simp] theorem c224(s:ByteArray):zA 224 [.str s]=some (.val (eI (if jE s then 0 else 8))):=by rw[C224];simp[c279];cases jE s <;> simp
end Go.Am
namespace Go.Am
open Go.Proofs
open Go
variable[OO]
theorem l134(l:List Int)(hl:l.length<=4611686018427387904):∀i,i<=l.length->L134_0a (l.map eI) l.length i=some (.val (eI (zL (l.drop i)))):=by
 apply down
 ·rw[L134_0a_eq];simp[zL]
 ·intro i hi ih;rw[L134_0a_eq,zT l i hi];have e1:(i:Int)<l.length:=by omega
  simp[e1,zI _ l i hi,zf,zL,wr (i+1) (by omega)]
  split
  ·exact_mod_cast ih
  ·rfl
@[simp] theorem c134(l:List Int)(hl:l.length<=4611686018427387904):zA 134 [.sl 1 (l.map eI)]=some (.val (eI (zL l))):=by rw[C134];simpa using l134 l hl 0 (Nat.zero_le _)
@[simp] theorem qY(a b:Int):zA 148 [.sl 1 [eI a,eI b]]=some (.val (eI (zL [a,b]))):=c148 [a,b] (by simp)
@[simp] theorem c148_3(a b c:Int):zA 148 [.sl 1 [eI a,eI b,eI c]]=some (.val (eI (zL [a,b,c]))):=c148 [a,b,c] (by simp)
@[simp] theorem c148_4(a b c d:Int):zA 148 [.sl 1 [eI a,eI b,eI c,eI d]]=some (.val (eI (zL [a,b,c,d]))):=c148 [a,b,c,d] (by simp)
@[simp] theorem c134_2(a b:Int):zA 134 [.sl 1 [eI a,eI b]]=some (.val (eI (zL [a,b]))):=c134 [a,b] (by simp)
@[simp] theorem c134_3(a b c:Int):zA 134 [.sl 1 [eI a,eI b,eI c]]=some (.val (eI (zL [a,b,c]))):=c134 [a,b,c] (by simp)
theorem zAs(p:Pt):ptE p=0 ↔ okPt p:=by unfold ptE okPt zL zV;by_cases h1:p.x < -1000\/p.x>1000 <;> by_cases h2:p.y < -1000\/p.y>1000 <;> simp[h1,h2,zL] <;> omega
theorem JS(d k:Int)(h:-k<=d)(h':d<=k):0<=d * d/\d * d<=k * k:=by
 by_cases hd:0<=d
 ·exact⟨Int.mul_nonneg hd hd,Int.mul_le_mul h' h' hd (by omega)⟩
 ·have h1:=Int.mul_nonneg (a:=-d) (b:=-d) (by omega) (by omega)
  have h2:=Int.mul_le_mul (a:=-d) (b:=-d) (c:=k) (d:=k) (by omega) (by omega) (by omega) (by omega)
  rw[Int.neg_mul_neg] at h1 h2;exact⟨h1,h2⟩
@[simp] theorem c168(p:Pt):zA 168 [ePt p]=some (.val (eI (ptE p))):=by rw[C168];simp[ptE]
@[simp] theorem c239(p:Pt):zA 239 [ePt p]=some (.val (eI (ptE p))):=by rw[C239];simp[ptE]
theorem apart_fit(a b:Pt)(ha:okPt a)(hb:okPt b):0<=jB a b/\jB a b<=8000000:=by
 obtain⟨a1,a2,a3,a4⟩:=ha;obtain⟨b1,b2,b3,b4⟩:=hb;have h1:=JS (a.x - b.x) 2000 (by omega) (by omega)
 have h2:=JS (a.y - b.y) 2000 (by omega) (by omega)
 unfold jB;omega
theorem c192(a b:Pt)(ha:okPt a)(hb:okPt b):zA 192 [ePt a,ePt b]=some (.val (eI (jB a b))):=by
 obtain⟨a1,a2,a3,a4⟩:=ha;obtain⟨b1,b2,b3,b4⟩:=hb;have h1:=JS (a.x - b.x) 2000 (by omega) (by omega)
 have h2:=JS (a.y - b.y) 2000 (by omega) (by omega)
 rw[C192];simp only[zK,h141,zM,Bool.and_self,zB,zR,zS,zW,zF];rw[wr (a.x - b.x) (by omega),wr (a.y - b.y) (by omega),wr ((a.x - b.x) * (a.x - b.x)) (by omega),wr ((a.y - b.y) * (a.y - b.y)) (by omega),wr _ (by omega)]
 rfl
theorem c240(a b:Pt)(ha:okPt a)(hb:okPt b):zA 240 [ePt a,ePt b]=some (.val (eI (jB a b))):=by
 obtain⟨a1,a2,a3,a4⟩:=ha;obtain⟨b1,b2,b3,b4⟩:=hb;have h1:=JS (a.x - b.x) 2000 (by omega) (by omega)
 have h2:=JS (a.y - b.y) 2000 (by omega) (by omega)
 rw[C240];simp only[zK,h141,zM,Bool.and_self,zB,zR,zS,zW,zF];rw[wr (a.x - b.x) (by omega),wr (a.y - b.y) (by omega),wr ((a.x - b.x) * (a.x - b.x)) (by omega),wr ((a.y - b.y) * (a.y - b.y)) (by omega),wr _ (by omega)]
 rfl
theorem bytes_beq(a b:ByteArray):(a.toList == b.toList)=decide (a=b):=by
 by_cases h:a=b
 ·subst h;simp
 ·have:a.toList≠b.toList:=λe=>h (WideShapes.bytes_inj (by rw[<-ByteArray.toList_eq,<-ByteArray.toList_eq];exact e))
  rw[decide_eq_false h];exact beq_eq_false_iff_ne.2 this
theorem findK_str(n:ByteArray):∀(ks:List ByteArray),jh (.str n) (ks.map .str) (List.replicate ks.length (.bool true))=some (if memB n ks then some (.bool true) else none)
 | []=>rfl
 | k :: ks=>by
  simp only[List.map_cons,List.length_cons,List.replicate_succ,jh,j6,bytes_beq,zN];by_cases h:n=k
  ·simp[h,memB]
  ·have e:memB n (k :: ks)=memB n ks:=by simp[memB,h]
   rw[e];simp only[decide_eq_false h,findK_str n ks]
theorem putK_str(n:ByteArray):∀(ks:List ByteArray),memB n ks=false->putK (.str n) (.bool true) (ks.map .str) (List.replicate ks.length (.bool true))=some ((ks++[n]).map .str,List.replicate (ks++[n]).length (.bool true))
 | [],_=>rfl
 | k :: ks,h=>by simp only[memB,List.any_cons,Bool.or_eq_false_iff] at h;have h1:¬n=k:=of_decide_eq_false h.1;simp only[List.map_cons,List.length_cons,List.replicate_succ,putK,j6,bytes_beq,zN,decide_eq_false h1];rw[putK_str n ks h.2];simp[List.replicate_succ]
theorem firstL_9(a b:Int):zL [a,b,9]≠0:=by
 unfold zL;split
 ·unfold zL;split
  ·simp[zL]
  ·assumption
 ·assumption
theorem firstL_mid{a b c:Int}(h:zL [a,b,c]=0):b=0:=by
 unfold zL at h;split at h
 ·unfold zL at h;split at h
  ·assumption
  ·exact h
 ·rename_i h0;exact absurd h h0
theorem zy{a:Int}{l:List Int}(h:zL (a :: l)=0):a=0/\zL l=0:=by
 unfold zL at h;split at h
 ·rename_i h0;exact⟨h0,h⟩
 ·rename_i h0;exact absurd h h0
theorem l158_1(e:Int)(tbs prev:List Tb)(n i:Nat)(nm:ByteArray)(least:Int)(t:Tb)(ks vs:List DV)(hl:prev.length<=1000)(hp:∀o∈prev,okPt o.at')(ht:okPt t.at')(h1:1<=least)(h2:least<=1000) :
  ∀k,k<=prev.length->qg e (tbs.map eTb) n i (prev.map eTb) prev.length k nm least t.name t.at'.x t.at'.y ks vs =
   if (prev.drop k).any (λo=>decide (jB t.at' o.at'<least * least)) then some (.val (eI 15)) else Qz e (tbs.map eTb) n (IntKind.i64.wrap (i+1)) nm least ks vs:=by
 apply down
 ·rw[L158_1a_eq];simp
 ·intro k hk ih;have e1:(k:Int)<prev.length:=by omega
  have hb:=JS least 1000 (by omega) h2
  have ha:=hp prev[k] (List.getElem_mem hk);have step:qg e (tbs.map eTb) n i (prev.map eTb) prev.length k nm least t.name t.at'.x t.at'.y ks vs =
    if jB t.at' prev[k].at'<least * least then some (.val (eI 15)) else qg e (tbs.map eTb) n i (prev.map eTb) prev.length ((k+1:Nat):Int) nm least t.name t.at'.x t.at'.y ks vs:=by
   rw[L158_1a_eq];simp only[zG];simp[e1,zI _ prev k hk,c240 t.at' prev[k].at' ht ha,wr (least * least) (by omega),wr (k+1) (by omega)]
   rfl
  rw[step,ih,zT prev k hk,List.any_cons];by_cases hd:jB t.at' prev[k].at'<least * least
  ·rw[if_pos hd,decide_eq_true hd,Bool.true_or,if_pos rfl]
  ·rw[if_neg hd,decide_eq_false hd,Bool.false_or]
theorem l158_0(s:Si)(hn:s.tb.length<=64)(h1:1<=s.least)(h2:s.least<=1000) :
  ∀i,i<=s.tb.length->(∀o∈s.tb.take i,okPt o.at') ->
   Qz 0 (s.tb.map eTb) s.tb.length i s.name s.least (((s.tb.take i).map (·.name)).map .str) (List.replicate ((s.tb.take i).map (·.name)).length (.bool true))=some (.val (eI (ja s.least (s.tb.take i) (s.tb.drop i)))):=by
 apply down (P:=λi=>(∀o∈s.tb.take i,okPt o.at')->Qz 0 (s.tb.map eTb) s.tb.length i s.name s.least (((s.tb.take i).map (·.name)).map .str) (List.replicate ((s.tb.take i).map (·.name)).length (.bool true))=some (.val (eI (ja s.least (s.tb.take i) (s.tb.drop i)))))
 ·intro _;rw[L158_0a_eq];simp[ja]
 ·intro i hi ih hp;have e1:(i:Int)<s.tb.length:=by omega
  have htk:s.tb.take (i+1)=s.tb.take i++[s.tb[i]]:=by rw[List.take_succ_eq_append_getElem hi]
  rw[zT s.tb i hi,ja];generalize hks:(s.tb.take i).map (·.name)=ks at *
  have hkl:ks.length=i:=by rw[<-hks];simp;omega
  have hkn:((s.tb.take (i+1)).map (·.name))=ks++[s.tb[i].name]:=by rw[htk,List.map_append,hks];rfl
  rw[htk] at ih;generalize he:zL [if jE s.tb[i].name then 0 else 8,ptE s.tb[i].at',if memB s.tb[i].name ks then 9 else 0]=e
  have step:Qz 0 (s.tb.map eTb) s.tb.length i s.name s.least (ks.map .str) (List.replicate ks.length (.bool true)) =
    if e=0 then qg e (s.tb.map eTb) s.tb.length i ((s.tb.take i).map eTb) (s.tb.take i).length (0:Nat) s.name s.least s.tb[i].name s.tb[i].at'.x s.tb[i].at'.y ((ks++[s.tb[i].name]).map .str) (List.replicate (ks++[s.tb[i].name]).length (.bool true))
    else some (.val (eI e)):=by
   rw[L158_0a_eq];simp only[zG,zf];cases hm:memB s.tb[i].name ks with
   | true =>
    simp[hm] at he;have hne:e≠0:=by rw[<-he];exact firstL_9 _ _
    simp[e1,zI _ s.tb i hi,findK_str,hm,he,hne]
   | false =>
    simp[hm] at he;simp[e1,zI _ s.tb i hi,findK_str,hm,he,putK_str _ _ hm,Nat.le_of_lt hi]
  rw[step];by_cases h0:e=0
  ·subst h0;have ht:okPt s.tb[i].at':=(zAs _).1 (firstL_mid he);rw[if_pos rfl,l158_1 0 s.tb (s.tb.take i) s.tb.length i s.name s.least s.tb[i] _ _ (by simp;omega) hp ht h1 h2 0 (Nat.zero_le _),List.drop_zero]
   simp only[ne_eq,not_true_eq_false,if_false];split
   ·rfl
   ·rw[wr ((i:Int)+1) (by omega)]
    have hp':∀o∈s.tb.take i++[s.tb[i]],okPt o.at':=by
     intro o ho;rcases List.mem_append.1 ho with ho | ho
     ·exact hp o ho
     ·rw[List.mem_singleton.1 ho];exact ht
    have:=ih hp';rw[List.map_append,hks] at this;exact this
  ·rw[if_neg h0,if_pos h0]
theorem Jc{s:Si}(h:zL [if jE s.name then 0 else 8,zV s.least 1 1000,if (64:Int)<s.tb.length then 5 else 0]=0):jE s.name=true/\1<=s.least/\s.least<=1000/\s.tb.length<=64:=by
 obtain⟨h1,h⟩:=zy h;obtain⟨h2,h⟩:=zy h;obtain⟨h3,h⟩:=zy h;refine⟨?_,?_,?_,?_⟩
 ·cases hn:jE s.name
  ·simp[hn] at h1
  ·rfl
 ·unfold zV at h2;split at h2 <;> omega
 ·unfold zV at h2;split at h2 <;> omega
 ·split at h3 <;> omega
theorem c158(s:Si):zA 158 [eSi s]=some (.val (eI (z8 s))):=by
 rw[C158];simp only[zf];simp[z8];by_cases h0:zL [if jE s.name then 0 else 8,zV s.least 1 1000,if (64:Int)<s.tb.length then 5 else 0]=0
 ·obtain⟨_,h1,h2,h3⟩:=Jc h0;have:=l158_0 s h3 h1 h2 0 (Nat.zero_le _) (by simp)
  simpa[h0] using this
 ·simp[h0]
@[simp] theorem isAg_agg(t i:Nat)(fs:List DV):isAg t i (.agg t fs)=decide (i<fs.length):=by simp[isAg]
end Go.Am
namespace Go.Am
open Go.Proofs
open Go
variable[OO]
def zg(l:List Int)(i:Nat):Option Int:=if i=0 then none else l[i - 1]?
theorem jY(l:List Int)(i:Nat)(h:i<l.length):zg l (i+1)=some l[i]:=by simp[zg,h]
theorem ite_gt0(j:Nat):(if ((j:Nat):Int)>0 then ((j:Nat):Int) else 0)=(j:Int):=by split <;> omega
theorem l75_1(d w:List Int)(nm:ByteArray)(hl:w.length<=1000):∀i,i<=w.length->zBB (w.map eI) w.length i nm (d.map eI)=some (.val (eI (jC 100 true (zg w i) (w.drop i)))):=by
 apply down
 ·rw[L75_1a_eq];simp[jC]
 ·intro i hi ih;have e1:(i:Int)<w.length:=by omega
  rw[zT w i hi,jC];rw[jY w i hi] at ih;have step:zBB (w.map eI) w.length i nm (d.map eI)=if zq 100 true (zg w i) w[i]=0 then zBB (w.map eI) w.length ((i+1:Nat):Int) nm (d.map eI) else some (.val (eI (zq 100 true (zg w i) w[i]))):=by
   rw[L75_1a_eq];simp only[zG,zf];cases i with
   | zero =>
    simp[e1,hi,zI _ w 0 hi,zg,zq,wr 1 (by omega)]
    all_goals rfl
   | succ j =>
    have hj:j<w.length:=by omega
    have e2:(((j+1:Nat):Int) - 1)=(j:Int):=by omega
    have e3:(j:Int)<w.length:=by omega
    have e4:((j+1:Nat):Int)>0:=by omega
    have e5:((j+1:Nat):Int)<w.length:=by omega
    have e6:(0:Int)<=((j+1:Nat):Int):=by omega
    rw[e2,wr (j:Int) (by omega),ite_gt0]
    rw[wr (((j+1:Nat):Int)+1) (by omega)]
    simp only[e4,e5,e6,e3,Int.natCast_nonneg,and_self,if_true,Int.toNat_natCast,zI _ w (j+1) hi,zI _ w j hj];have e7:(j:Int)+1<w.length:=by omega
    by_cases hc:w[j+1]<w[j]
    ·simp[zq,zg,hj,e7,hc]
     all_goals rfl
    ·simp[zq,zg,hj,e7,hc]
     all_goals rfl
  rw[step,ih];split <;> rfl
theorem l75_0(d w:List Int)(nm:ByteArray)(hl:d.length<=1000):∀i,i<=d.length->QY (d.map eI) d.length i nm (w.map eI)=if jC 256 false (zg d i) (d.drop i)=0 then zBB (w.map eI) w.length (0:Nat) nm (d.map eI) else some (.val (eI (jC 256 false (zg d i) (d.drop i)))):=by
 apply down
 ·rw[L75_0a_eq];simp[jC]
 ·intro i hi ih;have e1:(i:Int)<d.length:=by omega
  rw[zT d i hi,jC];rw[jY d i hi] at ih;have step:QY (d.map eI) d.length i nm (w.map eI)=if zq 256 false (zg d i) d[i]=0 then QY (d.map eI) d.length ((i+1:Nat):Int) nm (w.map eI) else some (.val (eI (zq 256 false (zg d i) d[i]))):=by
   rw[L75_0a_eq];simp only[zG,zf];cases i with
   | zero =>
    simp[e1,hi,zI _ d 0 hi,zg,zq,wr 1 (by omega)]
    all_goals rfl
   | succ j =>
    have hj:j<d.length:=by omega
    have e2:(((j+1:Nat):Int) - 1)=(j:Int):=by omega
    have e3:(j:Int)<d.length:=by omega
    have e4:((j+1:Nat):Int)>0:=by omega
    have e5:((j+1:Nat):Int)<d.length:=by omega
    have e6:(0:Int)<=((j+1:Nat):Int):=by omega
    rw[e2,wr (j:Int) (by omega),ite_gt0]
    rw[wr (((j+1:Nat):Int)+1) (by omega)]
    simp only[e4,e5,e6,e3,Int.natCast_nonneg,and_self,if_true,Int.toNat_natCast,zI _ d (j+1) hi,zI _ d j hj];have e7:(j:Int)+1<d.length:=by omega
    by_cases hc:d[j+1]>d[j]
    ·simp[zq,zg,hj,e7,hc]
     all_goals rfl
    ·simp[zq,zg,hj,e7,hc]
     all_goals rfl
  rw[step];by_cases h:zq 256 false (zg d i) d[i]=0
  ·rw[if_pos h,if_pos h,ih]
  ·rw[if_neg h,if_neg h,if_neg h]
def ruleF(r:ByteArray):FuncId:=if r=rG then 262 else if r=rS then 264 else 231
theorem findK_rule(r:ByteArray):jh (.str r) [.str rG,.str rS,.str rM] [.agg 12 [.fn 262 [] []],.agg 12 [.fn 264 [] []],.agg 12 [.fn 231 [] []]]=some (if jD r then some (.agg 12 [.fn (ruleF r) [] []]) else none):=by
 simp only[jh,j6,bytes_beq,zN,jD,memB,List.any_cons,List.any_nil,ruleF];by_cases h1:r=rG
 ·simp only[decide_eq_true h1,if_pos h1,Bool.true_or,if_true]
 ·by_cases h2:r=rS
  ·simp only[decide_eq_false h1,if_neg h1,decide_eq_true h2,if_pos h2,Bool.true_or,Bool.or_true,if_true,Bool.false_or]
  ·by_cases h3:r=rM
   ·simp only[decide_eq_false h1,if_neg h1,decide_eq_false h2,if_neg h2,decide_eq_true h3,Bool.true_or,Bool.or_true,if_true,Bool.false_or]
   ·simp only[decide_eq_false h1,decide_eq_false h2,decide_eq_false h3,Bool.or_false,Bool.false_eq_true,if_false]
theorem wakeH_facts{w:Wk}(h:wakeH w=0):jD w.rule=true/\w.d.length≠0/\w.d.length<=32/\w.w.length=w.d.length:=by
 unfold wakeH at h;obtain⟨h1,h⟩:=zy h;obtain⟨h2,h⟩:=zy h;obtain⟨h3,h⟩:=zy h;obtain⟨h4,h⟩:=zy h;refine⟨?_,?_,?_,?_⟩
 ·cases hn:jD w.rule
  ·simp[hn] at h1
  ·rfl
 ·intro e;rw[if_pos (List.eq_nil_of_length_eq_zero e)] at h2;cases h2
 ·split at h3 <;> omega
 ·split at h4 <;> omega
theorem c75(w:Wk):zA 75 [eWk w]=some (.val (eI (wakeE w))):=by
 have key:wakeH w=0->QY (w.d.map eI) w.d.length 0 w.rule (w.w.map eI)=some (.val (eI (if jC 256 false none w.d=0 then jC 100 true none w.w else jC 256 false none w.d))):=by
  intro h;obtain⟨_,_,h3,h4⟩:=wakeH_facts h;have a:=l75_0 w.d w.w w.rule (by omega) 0 (Nat.zero_le _)
  have b:=l75_1 w.d w.w w.rule (by omega) 0 (Nat.zero_le _)
  simp only[zg,if_true,List.drop_zero,Int.natCast_zero] at a b;rw[a,b];split <;> rfl
 rw[C75,C198];simp only[zH,zf];have fin:(if wakeH w=0 then QY (w.d.map eI) w.d.length 0 w.rule (w.w.map eI) else some (.val (eI (wakeH w))))=some (.val (eI (wakeE w))):=by
  unfold wakeE;by_cases h:wakeH w=0
  ·rw[if_pos h,if_pos h,key h]
  ·rw[if_neg h,if_neg h]
 rw[<-fin];simp[findK_rule];cases hk:jD w.rule with
 | true =>
  simp[wakeH,hk];rfl
 | false =>
  simp[wakeH,hk];rfl
end Go.Am
namespace Go.Am
open Go.Proofs
open Go
variable[OO]
theorem Yu{n:Int}(h0:0<=n)(h7:n<=7):n=0\/n=1\/n=2\/n=3\/n=4\/n=5\/n=6\/n=7:=by omega
theorem jX(n:Int):-1<=(zO n).x/\(zO n).x<=1/\-1<=(zO n).y/\(zO n).y<=1:=by
 unfold zO
 repeat' split
 all_goals simp
theorem c234(n:Int):zA 234 [eI n]=some (.val (.tup [if zV n 0 7=0 then ePt (zO n) else ePt ⟨0,0⟩,eI (zV n 0 7)])):=by
 by_cases h:zV n 0 7=0
 ·have h0:0<=n/\n<=7:=by unfold zV at h;split at h <;> omega
  rcases Yu h0.1 h0.2 with rfl | rfl | rfl | rfl | rfl | rfl | rfl | rfl <;> (rw[C234];simp[zO,nth,zV])
 ·rw[C234];simp only[zf];simp[h]
abbrev eWd(sec:Int)(p:Pt):DV:=.agg 9 [eI sec,ePt p]
theorem c147(n:Int):zA 147 [eI n]=some (.val (.tup [if zV n 0 7=0 then eWd n (zO n) else eWd 0 ⟨0,0⟩,eI (zV n 0 7)])):=by
 by_cases h:zV n 0 7=0
 ·rw[C147];simp only[zf];simp[h,c234]
 ·rw[C147];simp only[zf];simp[h]
theorem zp(a b k:Int)(h:-k<=a)(h':a<=k)(hb:-1<=b)(hb':b<=1):-k<=a * b/\a * b<=k:=by
 have:b=-1\/b=0\/b=1:=by omega
 rcases this with rfl | rfl | rfl
 ·rw[Int.mul_neg,Int.mul_one];omega
 ·rw[Int.mul_zero];omega
 ·rw[Int.mul_one];omega
def zAp(p:Pt):Prop:=-1<=p.x/\p.x<=1/\-1<=p.y/\p.y<=1
theorem c187(sec:Int)(st p:Pt)(hs:zAp st)(k:Int)(hk:k<=1000000)(hx:-k<=p.x)(hx':p.x<=k)(hy:-k<=p.y)(hy':p.y<=k):zA 187 [eWd sec st,ePt p]=some (.val (eI (Jo p st))):=by
 obtain⟨s1,s2,s3,s4⟩:=hs;have h1:=zp p.x st.x k hx hx' s1 s2;have h2:=zp p.y st.y k hy hy' s3 s4;rw[C187];simp only[zK,h251,h141,zM,Bool.and_self,zB,zR,zS,zW,zF];rw[wr (p.x * st.x) (by omega),wr (p.y * st.y) (by omega),wr _ (by omega)]
 rfl
theorem c185(sec:Int)(st a b:Pt)(hs:zAp st)(ha:okPt a)(hb:okPt b):zA 185 [eWd sec st,ePt a,ePt b]=some (.val (.tup [eI (relP sec st a b).1,eI (relP sec st a b).2])):=by
 obtain⟨a1,a2,a3,a4⟩:=ha;obtain⟨b1,b2,b3,b4⟩:=hb;have hal:=c187 sec st ⟨b.x - a.x,b.y - a.y⟩ hs 2000 (by omega) (by simp;omega) (by simp;omega) (by simp;omega) (by simp;omega)
 obtain⟨s1,s2,s3,s4⟩:=hs;have h1:=zp (b.x - a.x) st.y 2000 (by omega) (by omega) s3 s4
 have h2:=zp (b.y - a.y) st.x 2000 (by omega) (by omega) s1 s2
 rw[C185];simp only[zK,h251,h141,zM,Bool.and_self,zB,zR,zS,zW,zF];simp only[wr (b.x - a.x) (by omega),wr (b.y - a.y) (by omega),wr ((b.x - a.x) * st.y) (by omega),wr ((b.y - a.y) * st.x) (by omega),wr ((b.x - a.x) * st.y - (b.y - a.y) * st.x) (by omega),wr (0 - ((b.x - a.x) * st.y - (b.y - a.y) * st.x)) (by omega)]
 simp only[hal,zH,h3,zB,zF,zw,relP,relI,Jo];by_cases h:Int.tmod sec 2=1
 ·simp only[h,if_true]
 ·simp only[h,if_false]
theorem c186(w:Wk)(s o:Int)(hl:w.w.length=w.d.length)(hd:w.d.length<=1000):zA 186 [eWk w,eI s,eI o]=some (.val (eI (defI w.d w.w s o))):=by
 rw[C186];simp only[zG];by_cases h1:s<1
 ·simp[h1,defI]
 ·by_cases h2:s>w.d.length
  ·simp[h1,h2,defI]
  ·obtain⟨k,rfl⟩:∃k:Nat,s=(k:Int)+1:=⟨(s - 1).toNat,by omega⟩
   have hk:k<w.d.length:=by omega
   have hk':k<w.w.length:=by omega
   have e1:((k:Int)+1 - 1)=k:=by omega
   have e2:(k:Int)<w.d.length:=by omega
   have e3:(k:Int)<w.w.length:=by omega
   simp only[defI,e1,Int.toNat_natCast];simp[h1,h2,e2,e3,wr (k:Int) (by omega),zI _ w.d k hk,zI _ w.w k hk',hk,hk']
   by_cases h4:o>w.w[k]
   ·simp[h4]
   ·simp[h4]
end Go.Am
namespace Go.Am
open Go.Proofs
open Go
variable[OO]
theorem l126(a b:List Int)(hl:a.length=b.length)(hb:a.length<=1000000):∀i,i<=a.length->L126_0a (a.map eI) (b.map eI) i=some (.val (.bool (decide (a.drop i=b.drop i)))):=by
 apply down
 ·rw[L126_0a_eq];simp[hl]
 ·intro i hi ih;have e1:(i:Int)<a.length:=by omega
  have hi':i<b.length:=by omega
  have e2:(i:Int)<b.length:=by omega
  rw[zT a i hi,zT b i hi'];rw[L126_0a_eq];simp only[zG,zf,wr ((i:Int)+1) (by omega)]
  by_cases h:a[i]=b[i]
  ·have ih':L126_0a (a.map eI) (b.map eI) ((i:Int)+1)=some (.val (.bool (decide (a.drop (i+1)=b.drop (i+1))))):=by exact_mod_cast ih
   have hd:decide (a[i] :: a.drop (i+1)=b[i] :: b.drop (i+1))=decide (a.drop (i+1)=b.drop (i+1)):=decide_eq_decide.2 (by simp only[List.cons.injEq,h,true_and])
   rw[hd,<-ih'];simp[e1,e2,zI _ a i hi,zI _ b i hi',h]
  ·have hd:decide (a[i] :: a.drop (i+1)=b[i] :: b.drop (i+1))=false:=decide_eq_false (by simp only[List.cons.injEq,h,false_and,not_false_eq_true])
   rw[hd];simp[e1,e2,zI _ a i hi,zI _ b i hi',h]
theorem c126(a b:List Int)(hb:a.length<=1000000):zA 126 [.sl 1 (a.map eI),.sl 1 (b.map eI)]=some (.val (.bool (decide (a=b)))):=by
 rw[C126];simp only[zf];by_cases h:a.length=b.length
 ·have:=l126 a b h hb 0 (Nat.zero_le _);simpa[h] using this
 ·have h':¬(a.length:Int)=b.length:=by omega
  have hd:decide (a=b)=false:=decide_eq_false (by rintro rfl;exact h rfl)
  simp[h',hd]
end Go.Am
namespace Go.Am
open Go.Proofs
open Go
variable[OO]
theorem J5(a:Int)(l:List Int):zL (a :: l)=0 ↔ a=0/\zL l=0:=by
 constructor
 ·exact zy
 ·rintro⟨rfl,h⟩;simp[zL,h]
theorem Qr:zL []=0:=rfl
theorem siteGo_ok(least:Int):∀(l prev:List Tb),ja least prev l=0->∀t∈l,okPt t.at'/\jE t.name=true
 | [],_,_,t,ht=>by simp at ht
 | u :: l,prev,h,t,ht=>by
  rw[ja] at h;by_cases hz:zL [if jE u.name then 0 else 8,ptE u.at',if memB u.name (prev.map (·.name)) then 9 else 0]=0
  ·rw[if_neg (by rw[hz];simp)] at h
   by_cases ha:(prev.any λo=>decide (jB u.at' o.at'<least * least))=true
   ·rw[if_pos ha] at h;cases h
   ·rw[if_neg ha] at h;rcases List.mem_cons.1 ht with rfl | ht
    ·refine⟨(zAs _).1 (firstL_mid hz),?_⟩;have:=(zy hz).1;cases hn:jE t.name
     ·simp[hn] at this
     ·rfl
    ·exact siteGo_ok least l _ h t ht
  ·rw[if_pos hz] at h;exact absurd h hz
theorem Jq{s:Si}(h:z8 s=0):(∀t∈s.tb,okPt t.at'/\jE t.name=true)/\jE s.name=true/\1<=s.least/\s.least<=1000/\s.tb.length<=64:=by
 unfold z8 at h;by_cases hz:zL [if jE s.name then 0 else 8,zV s.least 1 1000,if (64:Int)<s.tb.length then 5 else 0]=0
 ·rw[if_neg (by rw[hz];simp)] at h
  exact⟨siteGo_ok _ _ _ h,Jc hz⟩
 ·rw[if_pos hz] at h;exact absurd h hz
def idxE(n i:Int):Int:=if i<0\/i>=n then 10 else 0
def relH(s:Si)(sec i j:Int):Int:=zL [zV sec 0 7,idxE s.tb.length i,idxE s.tb.length j,if i=j then 9 else 0]
def ptAt(s:Si)(i:Int):Pt:=((s.tb[i.toNat]?).map (·.at')).getD ⟨0,0⟩
def relA(s:Si)(sec i j:Int):Int×Int×Int :=
 if z8 s=0 then (if relH s sec i j=0 then ((relP sec (zO sec) (ptAt s i) (ptAt s j)).1,(relP sec (zO sec) (ptAt s i) (ptAt s j)).2,0) else (0,0,relH s sec i j)) else (0,0,z8 s)
theorem Yg{n a b:Int}(h:zV n a b=0):a<=n/\n<=b:=by unfold zV at h;split at h <;> omega
theorem idx_ok{n i:Int}(h:idxE n i=0):0<=i/\i<n:=by unfold idxE at h;split at h <;> omega
theorem zAt(s:Si)(k:Nat)(h:k<s.tb.length):ptAt s (k:Int)=s.tb[k].at':=by simp[ptAt,h]
theorem c64(s:Si)(sec i j:Int):zA 64 [eSi s,eI sec,eI i,eI j]=some (.val (.tup [eI (relA s sec i j).1,eI (relA s sec i j).2.1,eI (relA s sec i j).2.2])):=by
 rw[C64];simp only[zG,zf];unfold relA;by_cases he:z8 s=0
 ·obtain⟨hok,_,_,_,hl⟩:=Jq he;by_cases hh:relH s sec i j=0
  ·have hh':=hh;unfold relH at hh';simp only[J5] at hh';obtain⟨h1,h2,h3',h4,_⟩:=hh';have r1:=Yg h1;obtain⟨i0,i1⟩:=idx_ok h2;obtain⟨j0,j1⟩:=idx_ok h3';obtain⟨a,rfl⟩:∃a:Nat,i=a:=⟨i.toNat,by omega⟩
   obtain⟨b,rfl⟩:∃b:Nat,j=b:=⟨j.toNat,by omega⟩
   have ha:a<s.tb.length:=by omega
   have hb:b<s.tb.length:=by omega
   have hij:¬(a:Int)=b:=by intro e;rw[if_pos e] at h4;cases h4
   have hij':¬a=b:=by omega
   have ea:=(hok s.tb[a] (List.getElem_mem ha)).1;have eb:=(hok s.tb[b] (List.getElem_mem hb)).1;have hc:=c185 sec (zO sec) s.tb[a].at' s.tb[b].at' (jX sec) ea eb;have na:¬(a:Int)<0:=by omega
   have nb:¬(b:Int)<0:=by omega
   have na':¬(s.tb.length:Int)<=a:=by omega
   have nb':¬(s.tb.length:Int)<=b:=by omega
   have na2:¬s.tb.length<=a:=by omega
   have nb2:¬s.tb.length<=b:=by omega
   rw[zAt s a ha,zAt s b hb];simp[c158,he,c147,h1,hh,na,nb,na',nb',na2,nb2,hij,hij',J5,Qr,zI _ s.tb a ha,zI _ s.tb b hb,ha,hb,hc]
  ·have hw:hasT EE 6 251 (if zV sec 0 7=0 then eWd sec (zO sec) else eWd 0 ⟨0,0⟩)=true:=by split <;> simp
   simp only[he,hh,if_true,if_false];by_cases hi:i<0
   ·by_cases hj:j<0
    ·simp[c158,he,c147,hi,hj,J5,Qr,relH,idxE,hw]
    ·simp[c158,he,c147,hi,hj,J5,Qr,relH,idxE,hw]
   ·by_cases hj:j<0
    ·simp[c158,he,c147,hi,hj,J5,Qr,relH,idxE,hw]
    ·have hh2:=hh;simp[relH,idxE,hi,hj] at hh2;simp[c158,he,c147,hi,hj,relH,idxE,hh2,hw]
 ·simp[c158,he]
end Go.Am
