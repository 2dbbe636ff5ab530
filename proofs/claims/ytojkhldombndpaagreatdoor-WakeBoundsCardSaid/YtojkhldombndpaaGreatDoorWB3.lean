/- WakeBounds: for every input the law returns true, and each argument reads afterwards as it read before. Part 3. -/
import Derived.Test.YtojkhldombndpaaGreatDoorRows
import Derived.Test.YtojkhldombndpaaGreatDoorCards
import Derived.Stop.Joined
import Derived.SevenTiedAt
set_option linter.all false
namespace Go.Proofs.YtojkhldombndpaaGreatDoor
open Go
set_option maxRecDepth 100000
theorem wakeBounds_and{a b:Bool}(h:a=true)(k:b=true):(a && b)=true:=by rw[h,k];rfl
set_option maxHeartbeats 40000000 in
theorem wakeBounds_facts:joinedFacts Tryz.pinned.checked.prog 6 Tryz.f6 Rows.wakeBoundsSpec Rows.wakeBoundsRow=true:=by
 unfold joinedFacts
 repeat' (with_reducible refine wakeBounds_and ?_ ?_)
 all_goals (as_aux_lemma=>kernel_rfl)
end Go.Proofs.YtojkhldombndpaaGreatDoor
