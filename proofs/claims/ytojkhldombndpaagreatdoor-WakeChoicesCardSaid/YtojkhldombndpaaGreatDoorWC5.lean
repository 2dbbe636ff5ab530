/- WakeChoices: for every input the law returns true, and each argument reads afterwards as it read before. Part 5. -/
import Derived.Below
import Derived.Carry
import Derived.ChangeArms
import Derived.ChangeSame
import Derived.DataReads
import Derived.Deep.OwnRows
import Derived.Deep.RegionLaw
import Derived.Deep.RegionWith
import Derived.DeepKeys
import Derived.Ground.Names2Prog
import Derived.Ground.NamesProg
import Derived.Ground.SlgnProg
import Derived.Ground.SlsfProg
import Derived.IntWalk
import Derived.KernelRfl
import Derived.LaidMore
import Derived.Laws.AppendOwn
import Derived.Laws.BytesString
import Derived.Laws.CopyRow
import Derived.Laws.IdiomStrings
import Derived.Laws.OwnMore
import Derived.Laws.RangeAny
import Derived.Lib.AppendIntMem
import Derived.Lib.ItoaLen
import Derived.Lib.ItoaNum
import Derived.Lib.Join
import Derived.LoopIn
import Derived.LoopN
import Derived.LoopNIn
import Derived.LoopTactic
import Derived.MapKept
import Derived.Maps.Ext
import Derived.Maps.OwnSet
import Derived.Maps.RangeWalk
import Derived.OpenShut
import Derived.Orders
import Derived.OrdersIn
import Derived.OwnWalkIn
import Derived.ProofKit
import Derived.RangeFuncBound
import Derived.RangeFuncCalls
import Derived.RangeFuncLeaves
import Derived.RangeFuncNested
import Derived.Scope
import Derived.SevenTiedAt
import Derived.Shelf.Abstract
import Derived.Shelf.LaysM
import Derived.Shelf.SlSortCmp.NoneTotal
import Derived.Shelf.Slices.Clone
import Derived.Shelf.Slices.In.SortNone
import Derived.Shelf.Slices.SearchI
import Derived.Shelf.SlicesE.Clone
import Derived.Shelf.Small.Bits
import Derived.Shelf.Sort.Plain
import Derived.Shelf.Strconv.Itoa0
import Derived.Shelf.Strconv.Itoa1
import Derived.Shelf.Strconv.Itoa2
import Derived.Shelf.Strconv.Itoa3
import Derived.Shelf.Strings.Builder1
import Derived.Shelf.Strings.Builder2
import Derived.Shelf.Strings.Count
import Derived.Shelf.Strings.Cut
import Derived.Shelf.Strings.Explode
import Derived.Shelf.Strings.OnBuilder
import Derived.Shelf.Strings.RuneCount
import Derived.Shelf.Strings.Search1
import Derived.Shelf.Strings.Search2
import Derived.Shelf.Strings.Search3
import Derived.Shelf.Strings.Shaped
import Derived.Shelf.Strings.Split
import Derived.Shelf.Strings.SplitShaped
import Derived.Shelf.Unicode.Decode
import Derived.Shelf.Unicode.DecodeAny
import Derived.Shelf.Unicode.DecodeSlow
import Derived.Shelf.Utf8.RuneCount
import Derived.Sort.LotA
import Derived.Stop.Joined
import Derived.Tactics
import Derived.Tactics2
import Derived.TacticsInMore
import Derived.Test.YtojkhldombndpaaGreatDoorCards
import Derived.Test.YtojkhldombndpaaGreatDoorProg
import Derived.Test.YtojkhldombndpaaGreatDoorRows
import Derived.Test.YtojkhldombndpaaGreatDoorTie
import Derived.WalkKit
import Derived.WideShapes
import Derived.Test.YtojkhldombndpaaGreatDoorD6
import Derived.Test.YtojkhldombndpaaGreatDoorWC1
import Derived.Test.YtojkhldombndpaaGreatDoorWC2
import Derived.Test.YtojkhldombndpaaGreatDoorWC3
import Derived.Test.YtojkhldombndpaaGreatDoorWC4
set_option linter.all false
open Go.Proofs.YtojkhldombndpaaGreatDoor.Rows renaming wakeChoicesSpec->Aa,wakeChoicesRow->Ab
open Go.Proofs.Tryz renaming checked->Ac
open Option.some renaming inj->Ad
namespace Go.Proofs.YtojkhldombndpaaGreatDoor
open Go Go.Am Go.RowKit Go.ChangeShapes Go.WideShapes Go.ChangeAt
set_option maxRecDepth 100000 in
theorem wakeChoices_lifted(os:Os)(started:os.Started)(H:Type)(enc:TypeId×Value->H) :
  ReturnsInHanded {} Ac os 7 .any (λw args=>(Aa.pre enc Tryz.prog Tryz.f7 [] false w args/\laidMetH Tryz.prog Ab.laid w)/\sizedMet enc Tryz.prog Tryz.f7 (OpenSpec.ofChange Aa) false w args)
   (Aa.post enc Tryz.prog Tryz.f7 false true false false):=by
 refine returnsInHanded_of_change_and (C:=Ac) (X:=λw _=>laidMetH Tryz.prog Ab.laid w) (λ_ _ _ hh h=>h.of_heap hh) own started (by kernel_rfl) Tryz.func7
  (ChangeSpec.witness_shaped (enc:=enc) (C:=Ac) (os:=os) (X:=λw _=>laidMetH Tryz.prog Ab.laid w) false (World.doorLaid Tryz.prog 100 os) wakeChoices_args 8 rfl
   (wakeChoices_w1 os) (wakeChoices_w2 os) (wakeChoices_w3 os) (wakeChoices_w4 os) (zHH os _)) ?_
 intro W base args ds gs before hval0 hW _ _ hL _;have hval:∀(j:Nat) (t:TypeId) (v:Value),(#[83,5,3]:Array TypeId)[j]? = some t->args[j]? = some v->Value.okWide Tryz.prog W .any base t v:=by rw[Tryz.params7] at hval0;exact hval0
 have hW0:=hW;obtain⟨p,q,hA0,hV,_,_,_⟩:=hW;have hA:DataW.TrodAll enc Tryz.prog W 0 (λ_=>true) true [83,5,3] args.toList ds p:=by rw[Tryz.params7] at hA0;exact hA0
 obtain⟨rfl,rfl⟩:=trodVars_none hV;clear hA0 hval0;obtain⟨v0,v1,v2,d0,d1,d2,p0,p1,p2,rfl,rfl,_,h0,h1,h2⟩:=trodAll_three hA;obtain⟨x0,r0,t0⟩:=zCY E0D 6 (by kernel_rfl) (hval 0 83 v0 rfl rfl) h0
 obtain⟨p,rfl,hr,_⟩:=d83 t0;obtain⟨x1,r1,t1⟩:=zCY E0D 6 (by kernel_rfl) (hval 1 5 v1 rfl rfl) h1
 obtain⟨i,rfl,hi⟩:=d5 t1;obtain⟨x2,r2,t2⟩:=zCY E0D 6 (by kernel_rfl) (hval 2 3 v2 rfl rfl) h2
 obtain⟨n,rfl,_⟩:=d3 t2;have hg:=zBO hL;refine(@zG6 oo5 env5 7 _ (@law7 oo5 knW5 knS5 knX5 knF5 p hr i hi n awake5) W [v0,v1,v2] hg rfl ?_).mono λe W' ⟨he,hB⟩=>?_
 ·intro i h1 h2
  match i,h1,h2 with
  | 0,_,_=>exact r0
  | 1,_,_=>exact r1
  | 2,_,_=>exact r2
 ·subst he;exact⟨_,rfl,zGz zJY Tryz.underlying4 (by kernel_rfl) rfl rfl hW0 rfl hB⟩
theorem wakeChoices_said:Rows.WakeChoicesSaid :=
 OpenClaim.holds_of_wide 7 Tryz.f7 rfl rfl rfl rfl rfl rfl rfl ⟨rfl,rfl,rfl,rfl,rfl⟩ rfl rfl rfl rfl rfl wakeChoices_named Tryz.func7 wakeChoices_facts wakeChoices_inst wakeChoices_wrap (λos started H enc _=>wakeChoices_lifted os started H enc)
theorem wakeChoices_card:Rows.WakeChoicesCardSaid :=
 Claim7.holds_tied_plain_at .later [] _ true _ true wakeChoices_said (λ_ h=>by cases h) wakeChoices_wf (λ_ h=>by cases h) wakeChoices_row_tie rfl ⟨rfl,rfl⟩ wakeChoices_main rfl
  (λf fn hf hfn=>by
   obtain rfl:f=7:=Ad (wakeChoices_named.symm.trans hf) |>.symm
   obtain rfl:fn=Tryz.f7:=(Ad (Tryz.func7.symm.trans hfn)).symm;exact⟨wakeChoices_looks,λj t ht=>by
    rw[Tryz.params7] at ht;have hm:t∈[83,5,3]:=by simpa using Array.mem_of_getElem? ht
    exact(show Tryz.prog.wantsStandIn t=false by simpa using List.all_eq_true.1 wakeChoices_stand t hm)⟩)
  wakeChoices_goes
end Go.Proofs.YtojkhldombndpaaGreatDoor
