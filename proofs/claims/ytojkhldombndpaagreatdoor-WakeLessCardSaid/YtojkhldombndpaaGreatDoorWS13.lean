/- WakeLess: for every input the law returns true, and each argument reads afterwards as it read before. Part 13. -/
import Derived.Below
import Derived.Carry
import Derived.ChangeArms
import Derived.ChangeSame
import Derived.DataReads
import Derived.Deep.OwnRows
import Derived.Deep.RegionLaw
import Derived.Deep.RegionWith
import Derived.DeepKeys
import Derived.Ground.Names2Prog
import Derived.Ground.NamesProg
import Derived.Ground.SlgnProg
import Derived.Ground.SlsfProg
import Derived.IntWalk
import Derived.KernelRfl
import Derived.LaidMore
import Derived.Laws.AppendOwn
import Derived.Laws.CopyRow
import Derived.Laws.OwnMore
import Derived.Laws.RangeAny
import Derived.Lib.AppendIntMem
import Derived.Lib.ItoaLen
import Derived.Lib.ItoaNum
import Derived.Lib.Join
import Derived.LoopIn
import Derived.LoopN
import Derived.LoopNIn
import Derived.LoopTactic
import Derived.MapKept
import Derived.Maps.Ext
import Derived.Maps.OwnSet
import Derived.Maps.RangeWalk
import Derived.OpenShut
import Derived.Orders
import Derived.OrdersIn
import Derived.OwnWalkIn
import Derived.ProofKit
import Derived.RangeFuncBound
import Derived.RangeFuncCalls
import Derived.RangeFuncLeaves
import Derived.RangeFuncNested
import Derived.Scope
import Derived.SevenTiedAt
import Derived.Shelf.Abstract
import Derived.Shelf.LaysM
import Derived.Shelf.SlSortCmp.NoneTotal
import Derived.Shelf.Slices.Clone
import Derived.Shelf.Slices.In.SortNone
import Derived.Shelf.Slices.SearchI
import Derived.Shelf.SlicesE.Clone
import Derived.Shelf.Small.Bits
import Derived.Shelf.Sort.Plain
import Derived.Shelf.Strconv.Itoa0
import Derived.Shelf.Strconv.Itoa1
import Derived.Shelf.Strconv.Itoa2
import Derived.Shelf.Strconv.Itoa3
import Derived.Shelf.Strings.Builder1
import Derived.Shelf.Strings.Builder2
import Derived.Shelf.Strings.Count
import Derived.Shelf.Strings.Cut
import Derived.Shelf.Strings.Explode
import Derived.Shelf.Strings.OnBuilder
import Derived.Shelf.Strings.RuneCount
import Derived.Shelf.Strings.Search1
import Derived.Shelf.Strings.Search2
import Derived.Shelf.Strings.Search3
import Derived.Shelf.Strings.Shaped
import Derived.Shelf.Strings.Split
import Derived.Shelf.Strings.SplitShaped
import Derived.Shelf.Unicode.Decode
import Derived.Shelf.Unicode.DecodeAny
import Derived.Shelf.Unicode.DecodeSlow
import Derived.Shelf.Utf8.RuneCount
import Derived.Sort.LotA
import Derived.Stop.Joined
import Derived.Tactics
import Derived.Tactics2
import Derived.TacticsInMore
import Derived.Test.YtojkhldombndpaaGreatDoorCards
import Derived.Test.YtojkhldombndpaaGreatDoorProg
import Derived.Test.YtojkhldombndpaaGreatDoorRows
import Derived.Test.YtojkhldombndpaaGreatDoorTie
import Derived.WalkKit
import Derived.WideShapes
import Derived.Test.YtojkhldombndpaaGreatDoorWS1
import Derived.Test.YtojkhldombndpaaGreatDoorWS2
import Derived.Test.YtojkhldombndpaaGreatDoorWS3
import Derived.Test.YtojkhldombndpaaGreatDoorWS4
import Derived.Test.YtojkhldombndpaaGreatDoorWS5
import Derived.Test.YtojkhldombndpaaGreatDoorWS6
import Derived.Test.YtojkhldombndpaaGreatDoorWS7
import Derived.Test.YtojkhldombndpaaGreatDoorWS8
import Derived.Test.YtojkhldombndpaaGreatDoorWS9
import Derived.Test.YtojkhldombndpaaGreatDoorWSf
import Derived.Test.YtojkhldombndpaaGreatDoorWSg
import Derived.Test.YtojkhldombndpaaGreatDoorWS12
set_option linter.all false
namespace Go.Proofs.YtojkhldombndpaaGreatDoor
open Go Go.Am Go.RowKit Go.ChangeShapes Go.WideShapes Go.ChangeAt
set_option maxRecDepth 100000 in
theorem wakeLess_lifted(os:Os)(started:os.Started)(H:Type)(enc:TypeId×Value->H) :
  ReturnsInHanded {} Tryz.checked os 13 .any (λw args=>(Rows.wakeLessSpec.pre enc Tryz.prog Tryz.f13 [] false w args/\laidMetH Tryz.prog Rows.wakeLessRow.laid w)/\sizedMet enc Tryz.prog Tryz.f13 (OpenSpec.ofChange Rows.wakeLessSpec) false w args)
   (Rows.wakeLessSpec.post enc Tryz.prog Tryz.f13 false true false false):=by
 refine returnsInHanded_of_change_and (C:=Tryz.checked) (X:=λw _=>laidMetH Tryz.prog Rows.wakeLessRow.laid w) (λ_ _ _ hh h=>h.of_heap hh) own started (by kernel_rfl) Tryz.func13
  (ChangeSpec.witness_shaped (enc:=enc) (C:=Tryz.checked) (os:=os) (X:=λw _=>laidMetH Tryz.prog Rows.wakeLessRow.laid w) false (World.doorLaid Tryz.prog 100 os) wakeLess_args 8 rfl
   (wakeLess_w1 os) (wakeLess_w2 os) (wakeLess_w3 os) (wakeLess_w4 os) (door_met2 os _)) ?_
 intro W base args ds gs before hval0 hW _ _ hL _;have hval:∀(j:Nat) (t:TypeId) (v:Value),(#[34,72]:Array TypeId)[j]? = some t->args[j]? = some v->Value.okWide Tryz.prog W .any base t v:=by rw[Tryz.params13] at hval0;exact hval0
 have hW0:=hW;obtain⟨p,q,hA0,hV,_,_,_⟩:=hW;have hA:DataW.TrodAll enc Tryz.prog W 0 (λ_=>true) true [34,72] args.toList ds p:=by rw[Tryz.params13] at hA0;exact hA0
 obtain⟨rfl,rfl⟩:=trodVars_none hV;clear hA0 hval0;obtain⟨v0,v1,d0,d1,p0,p1,rfl,rfl,_,h0,h1⟩:=trodAll_two hA;obtain⟨x0,r0,t0⟩:=zJc E0D 6 (by kernel_rfl) (hval 0 34 v0 rfl rfl) h0
 obtain⟨f,rfl,hf,_⟩:=d34 t0;obtain⟨x1,r1,t1⟩:=zJc E0D 6 (by kernel_rfl) (hval 1 72 v1 rfl rfl) h1
 obtain⟨a,b,c,d,rfl,_⟩:=d72 t1;have hg:=zGV hL;refine(@law_calls oo4 env4 13 _ (@law13 oo4 knW4 knO4 f hf a b c d awake4) W [v0,v1] hg rfl ?_).mono λe W' ⟨he,hB⟩=>?_
 ·intro i h1 h2
  match i,h1,h2 with
  | 0,_,_=>exact r0
  | 1,_,_=>exact r1
 ·subst he;exact⟨_,rfl,post_true laidOutT Tryz.underlying4 (by kernel_rfl) rfl rfl hW0 rfl hB⟩
theorem wakeLess_said:Rows.WakeLessSaid :=
 OpenClaim.holds_of_wide 13 Tryz.f13 rfl rfl rfl rfl rfl rfl rfl ⟨rfl,rfl,rfl,rfl,rfl⟩ rfl rfl rfl rfl rfl wakeLess_named Tryz.func13 wakeLess_facts wakeLess_inst wakeLess_wrap (λos started H enc _=>wakeLess_lifted os started H enc)
theorem wakeLess_card:Rows.WakeLessCardSaid :=
 Claim7.holds_tied_plain_at .later [] _ true _ true wakeLess_said (λ_ h=>by cases h) wakeLess_wf (λ_ h=>by cases h) wakeLess_row_tie rfl ⟨rfl,rfl⟩ wakeLess_main rfl
  (λf fn hf hfn=>by
   obtain rfl:f=13:=Option.some.inj (wakeLess_named.symm.trans hf) |>.symm
   obtain rfl:fn=Tryz.f13:=(Option.some.inj (Tryz.func13.symm.trans hfn)).symm;exact⟨wakeLess_looks,λj t ht=>by
    rw[Tryz.params13] at ht;have hm:t∈[34,72]:=by simpa using Array.mem_of_getElem? ht
    exact(show Tryz.prog.wantsStandIn t=false by simpa using List.all_eq_true.1 wakeLess_stand t hm)⟩)
  wakeLess_goes
end Go.Proofs.YtojkhldombndpaaGreatDoor
