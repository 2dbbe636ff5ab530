/- WakeLess: for every input the law returns true, and each argument reads afterwards as it read before. A part. -/
import Derived.Test.YtojkhldombndpaaGreatDoorWSa
set_option linter.all false
namespace Go.Am
open Go.Proofs
open Go
variable[OO]
theorem zzp2(v0:Int)(v1 v2 v3:List DV)(v4:Int)(v5:ByteArray)(v6:Int)(v7:List DV)(v8:ByteArray)(v9 v10 v11:List DV)(v12:Int)(v13 v14 v15 v16:List DV):run zB (goQ 13) (zzE (zz13 v0 v1 v2 v3 v4 v5 v6 v7 v8 v9 v10 v11 v12 v13 v14 v15 v16)) =
 (zI (zB 34 [(.agg 4 [(.agg 0 [(.str v5),(eI v6),(.sl 3 v7)]),(.agg 0 [(.str v8),(.sl 1 v9),(.sl 1 v10)]),(.agg 1 [(.sl 1 v11),(eI v12)]),(.agg 3 v13)])])
 (λr207=>ifO (zH EE 6 62 r207)
 (zI (zB 30 [(.agg 4 [(.agg 0 [(.str (ze (nth (flds (nth (flds r207) 0)) 0))),(eI (zC (nth (flds (nth (flds r207) 0)) 1))),(.sl 3 (elems (nth (flds (nth (flds r207) 0)) 2)))]),(.agg 0 [(.str (ze (nth (flds (nth (flds r207) 1)) 0))),(.sl 1 (elems (nth (flds (nth (flds r207) 1)) 1))),(.sl 1 (elems (nth (flds (nth (flds r207) 1)) 2)))]),(.agg 1 [(.sl 1 (elems (nth (flds (nth (flds r207) 2)) 0))),(eI (zC (nth (flds (nth (flds r207) 2)) 1)))]),(.agg 3 (flds (nth (flds r207) 3)))])])
 (λr208=>ifO ((DV.isTup r208) && (zS (zH EE 6) [3,46] (tups r208)))
 (zI (zB 34 [(.agg 4 [(.agg 0 [(.str v5),(eI v6),(.sl 3 v7)]),(.agg 0 [(.str v8),(.sl 1 v9),(.sl 1 v10)]),(.agg 1 [(.sl 1 v11),(eI v12)]),(.agg 3 v13)])])
 (λr209=>ifO (zH EE 6 62 r209)
 (zI (zB 84 [(.agg 4 [(.agg 0 [(.str (ze (nth (flds (nth (flds r209) 0)) 0))),(eI (zC (nth (flds (nth (flds r209) 0)) 1))),(.sl 3 (elems (nth (flds (nth (flds r209) 0)) 2)))]),(.agg 0 [(.str (ze (nth (flds (nth (flds r209) 1)) 0))),(.sl 1 (elems (nth (flds (nth (flds r209) 1)) 1))),(.sl 1 (elems (nth (flds (nth (flds r209) 1)) 2)))]),(.agg 1 [(.sl 1 (elems (nth (flds (nth (flds r209) 2)) 0))),(eI (zC (nth (flds (nth (flds r209) 2)) 1)))]),(.agg 3 (flds (nth (flds r209) 3)))])])
 (λr210=>ifO ((DV.isTup r210) && (zS (zH EE 6) [3,46] (tups r210)))
 (zI (zB 34 [(.agg 4 [(.agg 0 [(.str v5),(eI v6),(.sl 3 v7)]),(.agg 0 [(.str v8),(.sl 1 v9),(.sl 1 v10)]),(.agg 1 [(.sl 1 v11),(eI v12)]),(.agg 3 v13)])])
 (λr211=>ifO (zH EE 6 62 r211)
 (zI (zB 83 [(.agg 4 [(.agg 0 [(.str (ze (nth (flds (nth (flds r211) 0)) 0))),(eI (zC (nth (flds (nth (flds r211) 0)) 1))),(.sl 3 (elems (nth (flds (nth (flds r211) 0)) 2)))]),(.agg 0 [(.str (ze (nth (flds (nth (flds r211) 1)) 0))),(.sl 1 (elems (nth (flds (nth (flds r211) 1)) 1))),(.sl 1 (elems (nth (flds (nth (flds r211) 1)) 2)))]),(.agg 1 [(.sl 1 (elems (nth (flds (nth (flds r211) 2)) 0))),(eI (zC (nth (flds (nth (flds r211) 2)) 1)))]),(.agg 3 (flds (nth (flds r211) 3)))])])
 (λr212=>ifO ((DV.isTup r212) && (zS (zH EE 6) [156,46] (tups r212)))
 (ifO ((zC (nth (tups r208) 1)) == (0:Int))
 (ifO ((zC (nth (tups r210) 1)) == (0:Int))
 (ifO ((zC (nth (tups r212) 1)) == (0:Int))
 (ifO (decide ((zC (nth (tups r208) 0))>=(0:Int)))
 (ifO (decide ((zC (nth (tups r208) 0))<=(zC (nth (tups r210) 0))))
 (ifO (jQ 1 0 (.agg 1 (flds (nth (tups r212) 0))))
 (ifO (zH EE 6 3 (nth (flds (nth (tups r212) 0)) 0))
 (ifO ((zC (nth (flds (nth (tups r212) 0)) 0)) == (zC (nth (tups r208) 0)))
 (ifO (jQ 1 1 (.agg 1 (flds (nth (tups r212) 0))))
 (ifO (zH EE 6 3 (nth (flds (nth (tups r212) 0)) 1))
 (some (.val (.bool (decide ((zC (nth (flds (nth (tups r212) 0)) 1))>=(zC (nth (tups r208) 0)))))))
 (none))
 (none))
 (some (.val (.bool false))))
 (none))
 (none))
 (some (.val (.bool false))))
 (some (.val (.bool false))))
 (some (.val (.bool false))))
 (some (.val (.bool false))))
 (some (.val (.bool false))))
 (none))
 (λ_ _=>none))
 (none))
 (λ_ _=>none))
 (none))
 (λ_ _=>none))
 (none))
 (λ_ _=>none))
 (none))
 (λ_ _=>none))
 (none))
 (λ_ _=>none)):=by kernel_rfl
end Go.Am
