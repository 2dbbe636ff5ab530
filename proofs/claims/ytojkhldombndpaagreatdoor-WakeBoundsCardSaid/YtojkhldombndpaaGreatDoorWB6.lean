/- WakeBounds: for every input the law returns true, and each argument reads afterwards as it read before. Part 6. -/
import Derived.Below
import Derived.Carry
import Derived.ChangeArms
import Derived.ChangeSame
import Derived.DataReads
import Derived.Deep.OwnRows
import Derived.Deep.RegionLaw
import Derived.Deep.RegionWith
import Derived.DeepKeys
import Derived.Ground.Names2Prog
import Derived.Ground.NamesProg
import Derived.Ground.SlgnProg
import Derived.Ground.SlsfProg
import Derived.IntWalk
import Derived.KernelRfl
import Derived.LaidMore
import Derived.Laws.AppendOwn
import Derived.Laws.BytesString
import Derived.Laws.CopyRow
import Derived.Laws.IdiomStrings
import Derived.Laws.OwnMore
import Derived.Laws.RangeAny
import Derived.Lib.AppendIntMem
import Derived.Lib.ItoaLen
import Derived.Lib.ItoaNum
import Derived.Lib.Join
import Derived.LoopIn
import Derived.LoopN
import Derived.LoopNIn
import Derived.LoopTactic
import Derived.MapKept
import Derived.Maps.Ext
import Derived.Maps.OwnSet
import Derived.Maps.RangeWalk
import Derived.OpenShut
import Derived.Orders
import Derived.OrdersIn
import Derived.OwnWalkIn
import Derived.ProofKit
import Derived.RangeFuncBound
import Derived.RangeFuncCalls
import Derived.RangeFuncLeaves
import Derived.RangeFuncNested
import Derived.Scope
import Derived.SevenTiedAt
import Derived.Shelf.Abstract
import Derived.Shelf.LaysM
import Derived.Shelf.SlSortCmp.NoneTotal
import Derived.Shelf.Slices.Clone
import Derived.Shelf.Slices.In.SortNone
import Derived.Shelf.Slices.SearchI
import Derived.Shelf.SlicesE.Clone
import Derived.Shelf.Small.Bits
import Derived.Shelf.Sort.Plain
import Derived.Shelf.Strconv.Itoa0
import Derived.Shelf.Strconv.Itoa1
import Derived.Shelf.Strconv.Itoa2
import Derived.Shelf.Strconv.Itoa3
import Derived.Shelf.Strings.Builder1
import Derived.Shelf.Strings.Builder2
import Derived.Shelf.Strings.Count
import Derived.Shelf.Strings.Cut
import Derived.Shelf.Strings.Explode
import Derived.Shelf.Strings.OnBuilder
import Derived.Shelf.Strings.RuneCount
import Derived.Shelf.Strings.Search1
import Derived.Shelf.Strings.Search2
import Derived.Shelf.Strings.Search3
import Derived.Shelf.Strings.Shaped
import Derived.Shelf.Strings.Split
import Derived.Shelf.Strings.SplitShaped
import Derived.Shelf.Unicode.Decode
import Derived.Shelf.Unicode.DecodeAny
import Derived.Shelf.Unicode.DecodeSlow
import Derived.Shelf.Utf8.RuneCount
import Derived.Sort.LotA
import Derived.Stop.Joined
import Derived.Tactics
import Derived.Tactics2
import Derived.TacticsInMore
import Derived.Test.YtojkhldombndpaaGreatDoorCards
import Derived.Test.YtojkhldombndpaaGreatDoorProg
import Derived.Test.YtojkhldombndpaaGreatDoorRows
import Derived.Test.YtojkhldombndpaaGreatDoorTie
import Derived.WalkKit
import Derived.WideShapes
import Derived.Test.YtojkhldombndpaaGreatDoorD6
import Derived.Test.YtojkhldombndpaaGreatDoorWB1
import Derived.Test.YtojkhldombndpaaGreatDoorWB2
import Derived.Test.YtojkhldombndpaaGreatDoorWB3
import Derived.Test.YtojkhldombndpaaGreatDoorWB4
import Derived.Test.YtojkhldombndpaaGreatDoorWB5
set_option linter.all false
namespace Go.Am
open Go Go.RowKit Go.ChangeShapes Go.WideShapes Go.WideElems
section
variable{P : Program}{E : Env}{w : World}{base : Nat}{spare : Nat -> Bool}{held : Bool}{H : Type}{enc : TypeId × Value -> H}
theorem spot_of_cell{a : Addr}{u : Value}(h : w.cell? ((a.add 0).add 0) = some u) : a.spot = none := by
  have e : (a.add 0).add 0 = a := rfl;rw[e] at h;unfold World.cell? at h;split at h
  · split at h
    · simp at h
    · rename_i h1; simpa using h1
  · simp at h
theorem trod_soundN(hD : DOK P E) : ∀(n fuel : Nat) (t : TypeId) (cs : List Value) (d : DataW H × List MemPlace), okTy E true n t = true ->
    DataW.trod enc P w base spare held fuel t cs = some d -> ∃x, RD E.L (λb => b < w.heap.size) w x cs /\ DT E n t x := by
  intro n;induction n with
  | zero => intro fuel t cs d hok; simp[okTy] at hok
  | succ n ih =>
    intro fuel t cs d hok h;unfold okTy at hok;unfold DT;cases hDt : E.D t with
    | none => rw[hDt] at hok; simp at hok
    | some td =>
      rw[hDt] at hok;simp only at hok ⊢;have ht := hD t td hDt;have hdesc := ht.desc;have hcell := zHJ hD hDt;unfold Dsc at hdesc;cases hk : td.k with
      | int k =>
        rw[hk] at hdesc;obtain⟨m, rfl, _, hwf⟩ := DataW.trod_int hdesc h;simp[Lit.wf] at hwf;exact⟨.int k m, .int _ _, m, rfl, hwf.1, hwf.2⟩
      | bool =>
        rw[hk] at hdesc;obtain⟨b, rfl, _⟩ := DataW.trod_bool hdesc h;exact⟨.bool b, .bool _, b, rfl⟩
      | flt k =>
        rw[hk] at hdesc;obtain⟨m, rfl, hwf⟩ := trod_float hdesc h;exact⟨.flt k m, .flt _ _, m, rfl, hwf⟩
      | str =>
        rw[hk] at hdesc;obtain⟨s, rfl, _⟩ := DataW.trod_string hdesc h;exact⟨.str s, .str _, s, rfl⟩
      | slice e =>
        rw[hk] at hdesc hok;simp only[Bool.and_eq_true] at hok ⊢;obtain⟨⟨hed0, hoke⟩, _⟩ := hok;obtain⟨ed, hed, hpos⟩ : ∃ed, E.D e = some ed /\ 0 < ed.size := by
          cases hq : E.D e with
          | none => rw[hq] at hed0; simp at hed0
          | some ed => rw[hq] at hed0; exact⟨ed, rfl, by simpa using hed0⟩
        have hce := zHJ hD hed;rcases DataW.trod_slice hdesc h with ⟨rfl, _⟩ | ⟨a, len, cap, elems, rest, m, _, rfl, _, _, hlc, _, hel, hels, _, _⟩
        · exact⟨.sl ed.size [], .sl _ [] none 0 0 [] rfl (Nat.le_refl 0) rfl (λi h => by simp at h) (by simp) (by simp), ed, [], hed, rfl, by simp⟩
        · rw[hce] at hels
          have hels : ∀i, i < len -> ∃c : List Value, (∃x, RD E.L (λb => b < w.heap.size) w x c /\ DT E n e x) /\ c.length = ed.size /\ ∀j, j < ed.size -> w.cell? ((a.add (i * ed.size)).add j) = c[j]? := by
            intro i hi;have hb := hels i hi;rw[List.getElem?_eq_getElem (by omega)] at hb
            obtain⟨c, hc1, hc2⟩ := Option.bind_eq_some_iff.1 hb;obtain⟨_, hlen, hcells⟩ := World.cells?_some hc1;exact⟨c, ih m e c _ hoke hc2, hlen, hcells⟩
          obtain⟨css, hcl, hcss⟩ := YJ len hels;obtain⟨xs, hxl, hxs⟩ := YJ (Q := λi x => ∀h : i < css.length, RD E.L (λb => b < w.heap.size) w x css[i] /\ DT E n e x) len λi hi => by
            have hi' : i < css.length := by omega
            obtain⟨x, hx⟩ := (hcss i hi').1;exact⟨x, λ_ => hx⟩
          have hz : ∀c ∈ css, c.length = ed.size := by intro c hc;obtain⟨i, hi, rfl⟩ := List.mem_iff_getElem.1 hc;exact(hcss i hi).2.1
          have hspa : 0 < css.length -> a.spot = none := λhi0 => by
            have h00 := (hcss 0 hi0).2.2 0 hpos;have hl0 := (hcss 0 hi0).2.1;rw[List.getElem?_eq_getElem (by omega), Nat.zero_mul] at h00
            exact spot_of_cell h00
          refine⟨.sl ed.size xs, .sl _ xs (some a) len cap css hxl hlc (by omega) (λi h1 h2 => (hxs i h1 h2).1) hz λh0 => ⟨a, rfl, hspa (by omega), ?_, ?_⟩, ed, xs, hed, rfl, ?_⟩
          · have hi0 : 0 < css.length := by omega
            have h00 := (hcss 0 hi0).2.2 0 hpos;have hl0 := (hcss 0 hi0).2.1;rw[List.getElem?_eq_getElem (by omega)] at h00
            have := cell_lt h00
            rwa [Jh, Jh] at this
          · intro j u hj
            have hjl : j < css.length * ed.size := by
              have := (List.getElem?_eq_some_iff.1 hj).1
              rwa [YX hz] at this
            have hi : j / ed.size < css.length := Nat.div_lt_of_lt_mul (by rwa [Nat.mul_comm] at hjl)
            have hm' : j % ed.size < ed.size := Nat.mod_lt _ hpos;have e1 := JS css hz (j / ed.size) hi (j % ed.size) hm';have e2 : j / ed.size * ed.size + j % ed.size = j := by rw[Nat.mul_comm]; exact Nat.div_add_mod j ed.size
            rw[e2] at e1;have := (hcss _ hi).2.2 (j % ed.size) hm';rw[zCo (hspa (by omega)), e2] at this
            rw[this, <-e1, hj]
          · intro y hy
            obtain⟨i, hi, rfl⟩ := List.mem_iff_getElem.1 hy;exact(hxs i hi (by omega)).2
      | struct tag =>
        rw[hk] at hdesc hok;simp only at hok ⊢;obtain⟨fs, hu, hty, hfl, hoff⟩ := hdesc;have hsz := ht.size;rw[hk] at hsz;simp only at hsz;obtain⟨ys, m, _, _, hlen, hyl, hys⟩ := DataW.trod_struct hu h;rw[hcell, hsz] at hlen;have hel : ∀i, i < (E.L tag).length -> ∃x, ∀hi : i < (zB0 (E.L tag) cs).length, RD E.L (λb => b < w.heap.size) w x (zB0 (E.L tag) cs)[i] /\ ∀u, (E.flds t)[i]? = some u -> DT E n u x := by
          intro i hi;have hfi : i < fs.size := by omega
          have hf : fs[i]? = some fs[i] := Array.getElem?_eq_getElem hfi;obtain⟨ho, j, hj, hLj, _⟩ := hoff i fs[i] hf;have hb := hys i fs[i] hf;rw[List.getElem?_eq_getElem (by omega)] at hb
          have hlf : fs.toList[i]? = some fs[i] := by simp[hfi]
          have hfty : (E.flds t)[i]? = some fs[i].type := by rw[<-hty, List.getElem?_map, hlf]; rfl
          have hmem : fs[i].type ∈ E.flds t := List.mem_iff_getElem?.2 ⟨i, hfty⟩;have hcf : P.cellsOf fs[i].type = j.size := by unfold Program.cellsOf; rw[hj]; rfl
          have hpiece : (cs.drop fs[i].offset).take (P.cellsOf fs[i].type) = (cs.drop ((E.L tag).take i).sum).take ((E.L tag)[i]) := by
            rw[ho, hcf];rw[List.getElem?_eq_getElem hi] at hLj;injection hLj with hLj
            rw[hLj]
          rw[hpiece] at hb;have hokf := List.all_eq_true.1 hok _ hmem;obtain⟨x, hx1, hx2⟩ := ih m fs[i].type _ _ hokf hb;refine⟨x, λhi' => ⟨?_, λu hu' => ?_⟩⟩
          · rw[zF6]; exact hx1
          · rw[hfty] at hu'
            injection hu' with hu'
            exact hu' ▸ hx2
        obtain⟨xs, hxl, hxs⟩ := YJ (E.L tag).length hel;have hcl := zCc (E.L tag) cs;have hfl' : (E.flds t).length = (E.L tag).length := by rw[<-hty]; simp[hfl]
        refine⟨.agg tag xs, ?_, xs, rfl, by omega, λi u y h1 h2 => ?_⟩
        · have := RD.agg (L := E.L) (S := λb => b < w.heap.size) (w := w) tag xs (zB0 (E.L tag) cs) (by omega) (λi h1 h2 => (hxs i h1 h2).1) (zDG _ _ hlen)
          rwa [Qz _ _ hlen] at this
        · have hi : i < xs.length := (List.getElem?_eq_some_iff.1 h2).1
          rw[List.getElem?_eq_getElem hi] at h2;injection h2 with h2
          subst h2;exact(hxs i hi (by omega)).2 u h1
      | array tag m e =>
        rw[hk] at hdesc hok;simp only[Bool.and_eq_true] at hok ⊢;obtain⟨hu, j, hj, hL⟩ := hdesc;obtain⟨hed, hoke⟩ := hok;have hsz := ht.size;rw[hk] at hsz;simp only at hsz;have hce : P.cellsOf e = j.size := by unfold Program.cellsOf; rw[hj]; rfl
        obtain⟨ys, k, _, _, hlen, hyl, hys⟩ := DataW.trod_array hu h;rw[hcell, hsz] at hlen;rw[hce] at hys;have hLl : (E.L tag).length = m := by rw[hL]; simp
        have hel : ∀i, i < m -> ∃x, ∀hi : i < (zB0 (E.L tag) cs).length, RD E.L (λb => b < w.heap.size) w x (zB0 (E.L tag) cs)[i] /\ DT E n e x := by
          intro i hi;have hb := hys i hi;rw[List.getElem?_eq_getElem (by omega)] at hb
          obtain⟨x, hx1, hx2⟩ := ih k e _ _ hoke hb;refine⟨x, λhi' => ⟨?_, hx2⟩⟩
          rw[zF6];have e1 : ((E.L tag).take i).sum = i * j.size := by rw[hL, List.take_replicate, List.sum_replicate_nat, Nat.min_eq_left (Nat.le_of_lt hi)]
          have e2 : (E.L tag)[i]'(by omega) = j.size := by simp[hL]
          rw[e1, e2];exact hx1
        obtain⟨xs, hxl, hxs⟩ := YJ m hel;have hcl := zCc (E.L tag) cs;refine⟨.agg tag xs, ?_, xs, rfl, hxl, λy hy => ?_⟩
        · have := RD.agg (L := E.L) (S := λb => b < w.heap.size) (w := w) tag xs (zB0 (E.L tag) cs) (by omega) (λi h1 h2 => (hxs i h1 h2).1) (zDG _ _ hlen)
          rwa [Qz _ _ hlen] at this
        · obtain⟨i, hi, rfl⟩ := List.mem_iff_getElem.1 hy
          exact(hxs i hi (by omega)).2
      | _ => rw[hk] at hok; simp at hok
theorem open_argN(hD : DOK P E){W : World}{base : Nat}{t : TypeId}{v : Value}{d : DataW H}{ps : List MemPlace}(n : Nat)(hok : okTy E true n t = true)(hval : Value.okWide P W .any base t v)(h : DataW.Trod enc P W 0 (λ_ => true) true t v d ps) :
    ∃x, RV E.L (λb => b < W.heap.size) W x v /\ DT E n t x := by
  obtain⟨fuel, hf⟩ := h;obtain⟨x, hx, hdt⟩ := trod_soundN hD n fuel t _ _ hok hf;have hdt0 := hdt;cases n with
  | zero => exact hdt.elim
  | succ n =>
    unfold DT at hdt;cases hDt : E.D t with
    | none => rw[hDt] at hdt; exact hdt.elim
    | some td =>
      rw[hDt] at hdt;simp only at hdt;have hdesc := (hD t td hDt).desc;unfold Dsc at hdesc;unfold Value.okWide at hval;refine⟨x, ?_, hdt0⟩;cases hk : td.k with
      | int k =>
        rw[hk] at hdt hdesc;obtain⟨m, rfl, _⟩ := hdt;rw[hdesc] at hval;exact RV.of rfl hx (Qv hval)
      | bool =>
        rw[hk] at hdt hdesc;obtain⟨m, rfl⟩ := hdt;rw[hdesc] at hval;exact RV.of rfl hx (Qv hval)
      | flt k =>
        rw[hk] at hdt hdesc;obtain⟨m, rfl, _⟩ := hdt;rw[hdesc] at hval;exact RV.of rfl hx (Qv hval)
      | str =>
        rw[hk] at hdt hdesc;obtain⟨m, rfl⟩ := hdt;rw[hdesc] at hval;exact RV.of rfl hx (Qv hval)
      | slice e =>
        rw[hk] at hdt hdesc;obtain⟨ed, xs, _, rfl, _⟩ := hdt;rw[hdesc] at hval;exact RV.of rfl hx (Qv hval)
      | struct tag =>
        rw[hk] at hdt hdesc;obtain⟨xs, rfl, _⟩ := hdt;obtain⟨fs, hu, _⟩ := hdesc;rw[hu] at hval;obtain⟨cs, rfl, _⟩ := hval;exact RV.of rfl hx rfl
      | array tag m e =>
        rw[hk] at hdt hdesc;obtain⟨xs, rfl, _⟩ := hdt;obtain⟨hu, _⟩ := hdesc;rw[hu] at hval;obtain⟨cs, rfl, _⟩ := hval;exact RV.of rfl hx rfl
      | _ => rw[hk] at hdt; exact hdt.elim
end
end Go.Am
open Go.Proofs.YtojkhldombndpaaGreatDoor.Rows renaming wakeBoundsSpec->Aa,wakeBoundsRow->Ab
open Go.Proofs.Tryz renaming checked->Ac
open Option.some renaming inj->Ad
namespace Go.Proofs.YtojkhldombndpaaGreatDoor
open Go Go.Am Go.RowKit Go.ChangeShapes Go.WideShapes Go.ChangeAt
set_option maxRecDepth 100000 in
theorem wakeBounds_lifted(os:Os)(started:os.Started)(H:Type)(enc:TypeId×Value->H) :
  ReturnsInHanded {} Ac os 6 .any (λw args=>(Aa.pre enc Tryz.prog Tryz.f6 [] false w args/\laidMetH Tryz.prog Ab.laid w)/\sizedMet enc Tryz.prog Tryz.f6 (OpenSpec.ofChange Aa) false w args)
   (Aa.post enc Tryz.prog Tryz.f6 false true false false):=by
 refine returnsInHanded_of_change_and (C:=Ac) (X:=λw _=>laidMetH Tryz.prog Ab.laid w) (λ_ _ _ hh h=>h.of_heap hh) own started (by kernel_rfl) Tryz.func6
  (ChangeSpec.witness_shaped (enc:=enc) (C:=Ac) (os:=os) (X:=λw _=>laidMetH Tryz.prog Ab.laid w) false (World.doorLaid Tryz.prog 100 os) wakeBounds_args 8 rfl
   (wakeBounds_w1 os) (wakeBounds_w2 os) (wakeBounds_w3 os) (wakeBounds_w4 os) (zHH os _)) ?_
 intro W base args ds gs before hval0 hW _ _ hL _;have hval:∀(j:Nat) (t:TypeId) (v:Value),(#[83,95,3]:Array TypeId)[j]? = some t->args[j]? = some v->Value.okWide Tryz.prog W .any base t v:=by rw[Tryz.params6] at hval0;exact hval0
 have hW0:=hW;obtain⟨p,q,hA0,hV,_,_,_⟩:=hW;have hA:DataW.TrodAll enc Tryz.prog W 0 (λ_=>true) true [83,95,3] args.toList ds p:=by rw[Tryz.params6] at hA0;exact hA0
 obtain⟨rfl,rfl⟩:=trodVars_none hV;clear hA0 hval0;obtain⟨v0,v1,v2,d0,d1,d2,p0,p1,p2,rfl,rfl,_,h0,h1,h2⟩:=trodAll_three hA;obtain⟨x0,r0,t0⟩:=zCY E0D 6 (by kernel_rfl) (hval 0 83 v0 rfl rfl) h0
 obtain⟨p,rfl,hr,_⟩:=d83 t0;obtain⟨x1,r1,t1⟩:=open_argN E0D 6 (by kernel_rfl) (hval 1 95 v1 rfl rfl) h1
 obtain⟨gs,rfl⟩:=d95 t1;obtain⟨x2,r2,t2⟩:=zCY E0D 6 (by kernel_rfl) (hval 2 3 v2 rfl rfl) h2
 obtain⟨n,rfl,_⟩:=d3 t2;have hg:=zBO hL;refine(@zG6 oo5 env5 6 _ (@law6 oo5 knW5 knS5 knX5 knF5 p hr gs n awake5) W [v0,v1,v2] hg rfl ?_).mono λe W' ⟨he,hB⟩=>?_
 ·intro i h1 h2
  match i,h1,h2 with
  | 0,_,_=>exact r0
  | 1,_,_=>exact r1
  | 2,_,_=>exact r2
 ·subst he;exact⟨_,rfl,zGz zJY Tryz.underlying4 (by kernel_rfl) rfl rfl hW0 rfl hB⟩
theorem wakeBounds_said:Rows.WakeBoundsSaid :=
 OpenClaim.holds_of_wide 6 Tryz.f6 rfl rfl rfl rfl rfl rfl rfl ⟨rfl,rfl,rfl,rfl,rfl⟩ rfl rfl rfl rfl rfl wakeBounds_named Tryz.func6 wakeBounds_facts wakeBounds_inst wakeBounds_wrap (λos started H enc _=>wakeBounds_lifted os started H enc)
theorem wakeBounds_card:Rows.WakeBoundsCardSaid :=
 Claim7.holds_tied_plain_at .later [] _ true _ true wakeBounds_said (λ_ h=>by cases h) wakeBounds_wf (λ_ h=>by cases h) wakeBounds_row_tie rfl ⟨rfl,rfl⟩ wakeBounds_main rfl
  (λf fn hf hfn=>by
   obtain rfl:f=6:=Ad (wakeBounds_named.symm.trans hf) |>.symm
   obtain rfl:fn=Tryz.f6:=(Ad (Tryz.func6.symm.trans hfn)).symm;exact⟨wakeBounds_looks,λj t ht=>by
    rw[Tryz.params6] at ht;have hm:t∈[83,95,3]:=by simpa using Array.mem_of_getElem? ht
    exact(show Tryz.prog.wantsStandIn t=false by simpa using List.all_eq_true.1 wakeBounds_stand t hm)⟩)
  wakeBounds_goes
end Go.Proofs.YtojkhldombndpaaGreatDoor
