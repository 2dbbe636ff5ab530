/- WakeLess: for every input the law returns true, and each argument reads afterwards as it read before. A part. -/
import Derived.Test.YtojkhldombndpaaGreatDoorWS7
set_option linter.all false
namespace Go.Am
open Go.Proofs
open Go
variable[OO]
def zzT:Tr->Tr
 | .ifB _ a _=>a
 | x=>x
def zzE:Tr->Tr
 | .ifB _ _ b=>b
 | x=>x
noncomputable abbrev zz13(v0:Int)(v1 v2 v3:List DV)(v4:Int)(v5:ByteArray)(v6:Int)(v7:List DV)(v8:ByteArray)(v9 v10 v11:List DV)(v12:Int)(v13 v14 v15 v16:List DV):Tr:=zEo EE XX 13 (j7 EE 13) (YC EE 13) 4 (S13_4d v0 v1 v2 v3 v4 v5 v6 v7 v8 v9 v10 v11 v12 v13 v14 v15 v16)
theorem zzp1(v0:Int)(v1 v2 v3:List DV)(v4:Int)(v5:ByteArray)(v6:Int)(v7:List DV)(v8:ByteArray)(v9 v10 v11:List DV)(v12:Int)(v13 v14 v15 v16:List DV):run zB (goQ 13) (zzT (zz13 v0 v1 v2 v3 v4 v5 v6 v7 v8 v9 v10 v11 v12 v13 v14 v15 v16)) =
 (ifO (decide (((0:Int)<=v4)/\(v4<(((List.length v14):Nat):Int))))
 (ifO (zH EE 6 3 (nth v14 (Int.toNat v4)))
 (ifO (decide ((zC (nth v14 (Int.toNat v4)))<(0:Int)))
 (some (.val (.bool false)))
 (ifO (decide (((0:Int)<=v4)/\(v4<(((List.length v14):Nat):Int))))
 (ifO (zH EE 6 3 (nth v14 (Int.toNat v4)))
 (ifO (decide (((0:Int)<=v4)/\(v4<(((List.length v15):Nat):Int))))
 (ifO (zH EE 6 3 (nth v15 (Int.toNat v4)))
 (ifO (decide ((zC (nth v14 (Int.toNat v4)))>(zC (nth v15 (Int.toNat v4)))))
 (some (.val (.bool false)))
 (ifO (decide (((0:Int)<=v4)/\(v4<(((List.length v15):Nat):Int))))
 (ifO (zH EE 6 3 (nth v15 (Int.toNat v4)))
 (ifO (decide (((0:Int)<=v4)/\(v4<(((List.length v16):Nat):Int))))
 (ifO (zH EE 6 3 (nth v16 (Int.toNat v4)))
 (ifO (decide ((zC (nth v15 (Int.toNat v4)))>(zC (nth v16 (Int.toNat v4)))))
 (some (.val (.bool false)))
 (ifO (decide (((0:Int)<=v4)/\(v4<(((List.length v16):Nat):Int))))
 (ifO (zH EE 6 3 (nth v16 (Int.toNat v4)))
 (ifO (decide ((zC (nth v16 (Int.toNat v4)))>(256:Int)))
 (some (.val (.bool false)))
 (ifO (decide (((0:Int)<=v4)/\(v4<(((List.length v16):Nat):Int))))
 (ifO (zH EE 6 3 (nth v16 (Int.toNat v4)))
 (ifO (decide (((0:Int)<=v4)/\(v4<(((List.length v1):Nat):Int))))
 (ifO (zH EE 6 25 (nth v1 (Int.toNat v4)))
 (zI (zB 93 [(.sl 1 (elems (nth v1 (Int.toNat v4))))])
 (λr204=>ifO (zH EE 6 3 r204)
 (ifO (bne (zC (nth v16 (Int.toNat v4))) (ite ((256:Int)<(zC r204)) (256:Int) (zC r204)))
 (some (.val (.bool false)))
 (ifO (decide (v4<(IntKind.wrap .i64 (v0 - (1:Int)))))
 (ifO (decide (((0:Int)<=v4)/\(v4<(((List.length v2):Nat):Int))))
 (ifO (zH EE 6 3 (nth v2 (Int.toNat v4)))
 (ifO (decide (((0:Int)<=v4)/\(v4<(((List.length v3):Nat):Int))))
 (ifO (zH EE 6 3 (nth v3 (Int.toNat v4)))
 (ifO (decide ((zC (nth v2 (Int.toNat v4)))>(zC (nth v3 (Int.toNat v4)))))
 (some (.val (.bool false)))
 ((zD8 v0 v1 v2 v3 (IntKind.wrap .i64 (v4+(1:Int))) v5 v6 v7 v8 v9 v10 v11 v12 v13 v14 v15 v16)))
 (none))
 (none))
 (none))
 (none))
 ((zD8 v0 v1 v2 v3 (IntKind.wrap .i64 (v4+(1:Int))) v5 v6 v7 v8 v9 v10 v11 v12 v13 v14 v15 v16))))
 (none))
 (λ_ _=>none))
 (none))
 (none))
 (none))
 (none)))
 (none))
 (none)))
 (none))
 (none))
 (none))
 (none)))
 (none))
 (none))
 (none))
 (none)))
 (none))
 (none)):=by kernel_rfl
end Go.Am
