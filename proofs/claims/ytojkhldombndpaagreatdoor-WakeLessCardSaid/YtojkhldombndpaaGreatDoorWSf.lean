/- WakeLess: for every input the law returns true, and each argument reads afterwards as it read before. A part. -/
import Derived.Test.YtojkhldombndpaaGreatDoorRows
import Derived.Test.YtojkhldombndpaaGreatDoorCards
import Derived.Stop.Joined
import Derived.SevenTiedAt
set_option linter.all false
namespace Go.Proofs.YtojkhldombndpaaGreatDoor
open Go
set_option maxRecDepth 100000
theorem wakeLess_and{a b:Bool}(h:a=true)(k:b=true):(a && b)=true:=by rw[h,k];rfl
set_option maxHeartbeats 40000000 in
theorem wakeLess_facts:joinedFacts Tryz.pinned.checked.prog 13 Tryz.f13 Rows.wakeLessSpec Rows.wakeLessRow=true:=by
 unfold joinedFacts
 repeat' (with_reducible refine wakeLess_and ?_ ?_)
 all_goals (as_aux_lemma=>kernel_rfl)
end Go.Proofs.YtojkhldombndpaaGreatDoor
