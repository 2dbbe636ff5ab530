/- WakeMoves: for every input the law returns true, and each argument reads afterwards as it read before. Part 2. -/
import Derived.Test.YtojkhldombndpaaGreatDoorWM1
set_option linter.all false
namespace Go.Am
open Go.Proofs
open Go
variable[OO]
theorem C94(x0 x1:DV):zA 94 [x0,x1] =
 ifO (zP (hasT EE 6) [62,176] [x0,x1])
 (zC (zA 40 [(.agg 4 [(.agg 0 [(.str (getS (nth (flds (nth (flds x0) 0)) 0))),(eI (getI (nth (flds (nth (flds x0) 0)) 1))),(.sl 3 (elems (nth (flds (nth (flds x0) 0)) 2)))]),(.agg 0 [(.str (getS (nth (flds (nth (flds x0) 1)) 0))),(.sl 1 (elems (nth (flds (nth (flds x0) 1)) 1))),(.sl 1 (elems (nth (flds (nth (flds x0) 1)) 2)))]),(.agg 1 [(.sl 1 (elems (nth (flds (nth (flds x0) 2)) 0))),(eI (getI (nth (flds (nth (flds x0) 2)) 1)))]),(.agg 3 (flds (nth (flds x0) 3)))])])
 (λr0=>ifO (hasT EE 6 46 r0)
 (ifO (bne (getI r0) 0)
 (some (.val (.tup [(eI 0),(eI (getI r0))])))
 (zC (zA 203 [(.agg 0 [(.str (getS (nth (flds (nth (flds x0) 0)) 0))),(eI (getI (nth (flds (nth (flds x0) 0)) 1))),(.sl 3 (elems (nth (flds (nth (flds x0) 0)) 2)))]),(.agg 9 [(.str (getS (nth (flds x1) 0))),(.agg 1 [(eI (getI (nth (flds (nth (flds x1) 1)) 0))),(eI (getI (nth (flds (nth (flds x1) 1)) 1)))])])])
 (λr1=>ifO (hasT EE 6 58 r1)
 (zC (zA 158 [(.agg 0 [(.str (getS (nth (flds r1) 0))),(eI (getI (nth (flds r1) 1))),(.sl 3 (elems (nth (flds r1) 2)))])])
 (λr2=>ifO (hasT EE 6 46 r2)
 (ifO (bne (getI r2) 0)
 (some (.val (.tup [(eI 0),(eI (getI r2))])))
 (zC (zA 204 [(.agg 4 [(.agg 0 [(.str (getS (nth (flds (nth (flds x0) 0)) 0))),(eI (getI (nth (flds (nth (flds x0) 0)) 1))),(.sl 3 (elems (nth (flds (nth (flds x0) 0)) 2)))]),(.agg 0 [(.str (getS (nth (flds (nth (flds x0) 1)) 0))),(.sl 1 (elems (nth (flds (nth (flds x0) 1)) 1))),(.sl 1 (elems (nth (flds (nth (flds x0) 1)) 2)))]),(.agg 1 [(.sl 1 (elems (nth (flds (nth (flds x0) 2)) 0))),(eI (getI (nth (flds (nth (flds x0) 2)) 1)))]),(.agg 3 (flds (nth (flds x0) 3)))]),(.agg 0 [(.str (getS (nth (flds r1) 0))),(eI (getI (nth (flds r1) 1))),(.sl 3 (elems (nth (flds r1) 2)))])])
 (λr3=>ifO (hasT EE 6 3 r3)
 (some (.val (.tup [(eI (getI r3)),(eI 0)])))
 (none))
 (λ_ _=>none)))
 (none))
 (λ_ _=>none))
 (none))
 (λ_ _=>none)))
 (none))
 (λ_ _=>none))
 (none) :=
 (zE (f:=94) (by kernel_rfl) (by kernel_rfl) (by kernel_rfl) [x0,x1]).trans (by kernel_rfl)
theorem C95(x0 x1 x2:DV):zA 95 [x0,x1,x2] =
 ifO (zP (hasT EE 6) [62,3,141] [x0,x1,x2])
 (zC (zA 40 [(.agg 4 [(.agg 0 [(.str (getS (nth (flds (nth (flds x0) 0)) 0))),(eI (getI (nth (flds (nth (flds x0) 0)) 1))),(.sl 3 (elems (nth (flds (nth (flds x0) 0)) 2)))]),(.agg 0 [(.str (getS (nth (flds (nth (flds x0) 1)) 0))),(.sl 1 (elems (nth (flds (nth (flds x0) 1)) 1))),(.sl 1 (elems (nth (flds (nth (flds x0) 1)) 2)))]),(.agg 1 [(.sl 1 (elems (nth (flds (nth (flds x0) 2)) 0))),(eI (getI (nth (flds (nth (flds x0) 2)) 1)))]),(.agg 3 (flds (nth (flds x0) 3)))])])
 (λr0=>ifO (hasT EE 6 46 r0)
 (ifO (decide ((getI x1)<(0:Int)))
 (zC (zA 169 [(.bool true),(eI 10)])
 (λr1=>ifO (hasT EE 6 46 r1)
 (zC (zA 148 [(.sl 1 [(eI (getI r0)),(eI (getI r1))])])
 (λr2=>ifO (hasT EE 6 46 r2)
 (ifO (bne (getI r2) 0)
 (some (.val (.tup [(eI 0),(eI (getI r2))])))
 (zC (zA 205 [(.agg 0 [(.str (getS (nth (flds (nth (flds x0) 0)) 0))),(eI (getI (nth (flds (nth (flds x0) 0)) 1))),(.sl 3 (elems (nth (flds (nth (flds x0) 0)) 2)))]),(eI (getI x1)),(.agg 1 [(eI (getI (nth (flds x2) 0))),(eI (getI (nth (flds x2) 1)))])])
 (λr3=>ifO (hasT EE 6 58 r3)
 (zC (zA 158 [(.agg 0 [(.str (getS (nth (flds r3) 0))),(eI (getI (nth (flds r3) 1))),(.sl 3 (elems (nth (flds r3) 2)))])])
 (λr4=>ifO (hasT EE 6 46 r4)
 (ifO (bne (getI r4) 0)
 (some (.val (.tup [(eI 0),(eI (getI r4))])))
 (zC (zA 204 [(.agg 4 [(.agg 0 [(.str (getS (nth (flds (nth (flds x0) 0)) 0))),(eI (getI (nth (flds (nth (flds x0) 0)) 1))),(.sl 3 (elems (nth (flds (nth (flds x0) 0)) 2)))]),(.agg 0 [(.str (getS (nth (flds (nth (flds x0) 1)) 0))),(.sl 1 (elems (nth (flds (nth (flds x0) 1)) 1))),(.sl 1 (elems (nth (flds (nth (flds x0) 1)) 2)))]),(.agg 1 [(.sl 1 (elems (nth (flds (nth (flds x0) 2)) 0))),(eI (getI (nth (flds (nth (flds x0) 2)) 1)))]),(.agg 3 (flds (nth (flds x0) 3)))]),(.agg 0 [(.str (getS (nth (flds r3) 0))),(eI (getI (nth (flds r3) 1))),(.sl 3 (elems (nth (flds r3) 2)))])])
 (λr5=>ifO (hasT EE 6 3 r5)
 (some (.val (.tup [(eI (getI r5)),(eI 0)])))
 (none))
 (λ_ _=>none)))
 (none))
 (λ_ _=>none))
 (none))
 (λ_ _=>none)))
 (none))
 (λ_ _=>none))
 (none))
 (λ_ _=>none))
 (zC (zA 169 [(.bool (decide ((getI x1)>=(((List.length (elems (nth (flds (nth (flds x0) 0)) 2))):Nat):Int)))),(eI 10)])
 (λr16=>ifO (hasT EE 6 46 r16)
 (zC (zA 148 [(.sl 1 [(eI (getI r0)),(eI (getI r16))])])
 (λr17=>ifO (hasT EE 6 46 r17)
 (ifO (bne (getI r17) 0)
 (some (.val (.tup [(eI 0),(eI (getI r17))])))
 (zC (zA 205 [(.agg 0 [(.str (getS (nth (flds (nth (flds x0) 0)) 0))),(eI (getI (nth (flds (nth (flds x0) 0)) 1))),(.sl 3 (elems (nth (flds (nth (flds x0) 0)) 2)))]),(eI (getI x1)),(.agg 1 [(eI (getI (nth (flds x2) 0))),(eI (getI (nth (flds x2) 1)))])])
 (λr18=>ifO (hasT EE 6 58 r18)
 (zC (zA 158 [(.agg 0 [(.str (getS (nth (flds r18) 0))),(eI (getI (nth (flds r18) 1))),(.sl 3 (elems (nth (flds r18) 2)))])])
 (λr19=>ifO (hasT EE 6 46 r19)
 (ifO (bne (getI r19) 0)
 (some (.val (.tup [(eI 0),(eI (getI r19))])))
 (zC (zA 204 [(.agg 4 [(.agg 0 [(.str (getS (nth (flds (nth (flds x0) 0)) 0))),(eI (getI (nth (flds (nth (flds x0) 0)) 1))),(.sl 3 (elems (nth (flds (nth (flds x0) 0)) 2)))]),(.agg 0 [(.str (getS (nth (flds (nth (flds x0) 1)) 0))),(.sl 1 (elems (nth (flds (nth (flds x0) 1)) 1))),(.sl 1 (elems (nth (flds (nth (flds x0) 1)) 2)))]),(.agg 1 [(.sl 1 (elems (nth (flds (nth (flds x0) 2)) 0))),(eI (getI (nth (flds (nth (flds x0) 2)) 1)))]),(.agg 3 (flds (nth (flds x0) 3)))]),(.agg 0 [(.str (getS (nth (flds r18) 0))),(eI (getI (nth (flds r18) 1))),(.sl 3 (elems (nth (flds r18) 2)))])])
 (λr20=>ifO (hasT EE 6 3 r20)
 (some (.val (.tup [(eI (getI r20)),(eI 0)])))
 (none))
 (λ_ _=>none)))
 (none))
 (λ_ _=>none))
 (none))
 (λ_ _=>none)))
 (none))
 (λ_ _=>none))
 (none))
 (λ_ _=>none)))
 (none))
 (λ_ _=>none))
 (none) :=
 (zE (f:=95) (by kernel_rfl) (by kernel_rfl) (by kernel_rfl) [x0,x1,x2]).trans (by kernel_rfl)
theorem C96(x0 x1:DV):zA 96 [x0,x1] =
 ifO (zP (hasT EE 6) [24,143] [x0,x1])
 (ifO (decide ((((2 * (0+(List.length (elems (nth (flds x0) 2)))))+200) * 32)<=281474976710656))
 (ifO (List.isEmpty (elems (nth (flds x0) 2)))
 (some (.val (.agg 0 [(.str (getS (nth (flds x0) 0))),(eI (getI (nth (flds x0) 1))),(.sl 3 [(.agg 9 [(.str (getS (nth (flds x1) 0))),(.agg 1 [(eI (getI (nth (flds (nth (flds x1) 1)) 0))),(eI (getI (nth (flds (nth (flds x1) 1)) 1)))])])])])))
 (ifO (decide ((List.length ([]++(elems (nth (flds x0) 2))))=(List.length ([]++(elems (nth (flds x0) 2))))))
 (ifO (decide ((((2 * ((List.length ([]++(elems (nth (flds x0) 2))))+1))+200) * 32)<=281474976710656))
 (ifO (decide ((0+(List.length (([]++(elems (nth (flds x0) 2)))++[(.agg 9 [(.str (getS (nth (flds x1) 0))),(.agg 1 [(eI (getI (nth (flds (nth (flds x1) 1)) 0))),(eI (getI (nth (flds (nth (flds x1) 1)) 1)))])])])))<=(List.length (([]++(elems (nth (flds x0) 2)))++[(.agg 9 [(.str (getS (nth (flds x1) 0))),(.agg 1 [(eI (getI (nth (flds (nth (flds x1) 1)) 0))),(eI (getI (nth (flds (nth (flds x1) 1)) 1)))])])]))))
 (some (.val (.agg 0 [(.str (getS (nth (flds x0) 0))),(eI (getI (nth (flds x0) 1))),(.sl 3 (List.take (List.length (([]++(elems (nth (flds x0) 2)))++[(.agg 9 [(.str (getS (nth (flds x1) 0))),(.agg 1 [(eI (getI (nth (flds (nth (flds x1) 1)) 0))),(eI (getI (nth (flds (nth (flds x1) 1)) 1)))])])])) (List.drop 0 (([]++(elems (nth (flds x0) 2)))++[(.agg 9 [(.str (getS (nth (flds x1) 0))),(.agg 1 [(eI (getI (nth (flds (nth (flds x1) 1)) 0))),(eI (getI (nth (flds (nth (flds x1) 1)) 1)))])])]))))])))
 (none))
 (none))
 (none)))
 (none))
 (none) :=
 (zE (f:=96) (by kernel_rfl) (by kernel_rfl) (by kernel_rfl) [x0,x1]).trans (by kernel_rfl)
theorem C97(x0 x1:DV):zA 97 [x0,x1] =
 ifO (zP (hasT EE 6) [34,143] [x0,x1])
 (zC (zA 96 [(.agg 0 [(.str (getS (nth (flds (nth (flds x0) 0)) 0))),(eI (getI (nth (flds (nth (flds x0) 0)) 1))),(.sl 3 (elems (nth (flds (nth (flds x0) 0)) 2)))]),(.agg 9 [(.str (getS (nth (flds x1) 0))),(.agg 1 [(eI (getI (nth (flds (nth (flds x1) 1)) 0))),(eI (getI (nth (flds (nth (flds x1) 1)) 1)))])])])
 (λr0=>ifO (hasT EE 6 24 r0)
 (zC (zA 206 [(.agg 4 [(.agg 0 [(.str (getS (nth (flds (nth (flds x0) 0)) 0))),(eI (getI (nth (flds (nth (flds x0) 0)) 1))),(.sl 3 (elems (nth (flds (nth (flds x0) 0)) 2)))]),(.agg 0 [(.str (getS (nth (flds (nth (flds x0) 1)) 0))),(.sl 1 (elems (nth (flds (nth (flds x0) 1)) 1))),(.sl 1 (elems (nth (flds (nth (flds x0) 1)) 2)))]),(.agg 1 [(.sl 1 (elems (nth (flds (nth (flds x0) 2)) 0))),(eI (getI (nth (flds (nth (flds x0) 2)) 1)))]),(.agg 3 (flds (nth (flds x0) 3)))]),(.agg 0 [(.str (getS (nth (flds r0) 0))),(eI (getI (nth (flds r0) 1))),(.sl 3 (elems (nth (flds r0) 2)))])])
 (λr1=>ifO (hasT EE 6 34 r1)
 (zC (zA 39 [(.agg 4 [(.agg 0 [(.str (getS (nth (flds (nth (flds r1) 0)) 0))),(eI (getI (nth (flds (nth (flds r1) 0)) 1))),(.sl 3 (elems (nth (flds (nth (flds r1) 0)) 2)))]),(.agg 0 [(.str (getS (nth (flds (nth (flds r1) 1)) 0))),(.sl 1 (elems (nth (flds (nth (flds r1) 1)) 1))),(.sl 1 (elems (nth (flds (nth (flds r1) 1)) 2)))]),(.agg 1 [(.sl 1 (elems (nth (flds (nth (flds r1) 2)) 0))),(eI (getI (nth (flds (nth (flds r1) 2)) 1)))]),(.agg 3 (flds (nth (flds r1) 3)))])])
 (λr2=>ifO (hasT EE 6 3 r2)
 (zC (zA 39 [(.agg 4 [(.agg 0 [(.str (getS (nth (flds (nth (flds x0) 0)) 0))),(eI (getI (nth (flds (nth (flds x0) 0)) 1))),(.sl 3 (elems (nth (flds (nth (flds x0) 0)) 2)))]),(.agg 0 [(.str (getS (nth (flds (nth (flds x0) 1)) 0))),(.sl 1 (elems (nth (flds (nth (flds x0) 1)) 1))),(.sl 1 (elems (nth (flds (nth (flds x0) 1)) 2)))]),(.agg 1 [(.sl 1 (elems (nth (flds (nth (flds x0) 2)) 0))),(eI (getI (nth (flds (nth (flds x0) 2)) 1)))]),(.agg 3 (flds (nth (flds x0) 3)))])])
 (λr3=>ifO (hasT EE 6 3 r3)
 (some (.val (eI (IntKind.wrap .i64 ((getI r2) - (getI r3))))))
 (none))
 (λ_ _=>none))
 (none))
 (λ_ _=>none))
 (none))
 (λ_ _=>none))
 (none))
 (λ_ _=>none))
 (none) :=
 (zE (f:=97) (by kernel_rfl) (by kernel_rfl) (by kernel_rfl) [x0,x1]).trans (by kernel_rfl)
theorem C98(x0 x1 x2:DV):zA 98 [x0,x1,x2] =
 ifO (zP (hasT EE 6) [24,3,141] [x0,x1,x2])
 (ifO (decide ((((2 * (0+(List.length (elems (nth (flds x0) 2)))))+200) * 32)<=281474976710656))
 (ifO (List.isEmpty (elems (nth (flds x0) 2)))
 (none)
 (ifO (decide (((0:Int)<=(getI x1))/\((getI x1)<(((List.length ([]++(elems (nth (flds x0) 2)))):Nat):Int))))
 (ifO (decide ((0+(Int.toNat (getI x1)))<(List.length ([]++(elems (nth (flds x0) 2))))))
 (ifO (isAg 9 1 (nth ([]++(elems (nth (flds x0) 2))) (0+(Int.toNat (getI x1)))))
 (ifO (decide ((0+(List.length ([]++(elems (nth (flds x0) 2)))))<=(List.length (List.set ([]++(elems (nth (flds x0) 2))) (0+(Int.toNat (getI x1))) (.agg 9 (List.set (flds (nth ([]++(elems (nth (flds x0) 2))) (0+(Int.toNat (getI x1))))) 1 (.agg 1 [(eI (getI (nth (flds x2) 0))),(eI (getI (nth (flds x2) 1)))])))))))
 (some (.val (.agg 0 [(.str (getS (nth (flds x0) 0))),(eI (getI (nth (flds x0) 1))),(.sl 3 (List.take (List.length ([]++(elems (nth (flds x0) 2)))) (List.drop 0 (List.set ([]++(elems (nth (flds x0) 2))) (0+(Int.toNat (getI x1))) (.agg 9 (List.set (flds (nth ([]++(elems (nth (flds x0) 2))) (0+(Int.toNat (getI x1))))) 1 (.agg 1 [(eI (getI (nth (flds x2) 0))),(eI (getI (nth (flds x2) 1)))])))))))])))
 (none))
 (none))
 (none))
 (none)))
 (none))
 (none) :=
 (zE (f:=98) (by kernel_rfl) (by kernel_rfl) (by kernel_rfl) [x0,x1,x2]).trans (by kernel_rfl)
theorem C99(x0 x1 x2:DV):zA 99 [x0,x1,x2] =
 ifO (zP (hasT EE 6) [34,3,141] [x0,x1,x2])
 (zC (zA 98 [(.agg 0 [(.str (getS (nth (flds (nth (flds x0) 0)) 0))),(eI (getI (nth (flds (nth (flds x0) 0)) 1))),(.sl 3 (elems (nth (flds (nth (flds x0) 0)) 2)))]),(eI (getI x1)),(.agg 1 [(eI (getI (nth (flds x2) 0))),(eI (getI (nth (flds x2) 1)))])])
 (λr0=>ifO (hasT EE 6 24 r0)
 (zC (zA 206 [(.agg 4 [(.agg 0 [(.str (getS (nth (flds (nth (flds x0) 0)) 0))),(eI (getI (nth (flds (nth (flds x0) 0)) 1))),(.sl 3 (elems (nth (flds (nth (flds x0) 0)) 2)))]),(.agg 0 [(.str (getS (nth (flds (nth (flds x0) 1)) 0))),(.sl 1 (elems (nth (flds (nth (flds x0) 1)) 1))),(.sl 1 (elems (nth (flds (nth (flds x0) 1)) 2)))]),(.agg 1 [(.sl 1 (elems (nth (flds (nth (flds x0) 2)) 0))),(eI (getI (nth (flds (nth (flds x0) 2)) 1)))]),(.agg 3 (flds (nth (flds x0) 3)))]),(.agg 0 [(.str (getS (nth (flds r0) 0))),(eI (getI (nth (flds r0) 1))),(.sl 3 (elems (nth (flds r0) 2)))])])
 (λr1=>ifO (hasT EE 6 34 r1)
 (zC (zA 39 [(.agg 4 [(.agg 0 [(.str (getS (nth (flds (nth (flds r1) 0)) 0))),(eI (getI (nth (flds (nth (flds r1) 0)) 1))),(.sl 3 (elems (nth (flds (nth (flds r1) 0)) 2)))]),(.agg 0 [(.str (getS (nth (flds (nth (flds r1) 1)) 0))),(.sl 1 (elems (nth (flds (nth (flds r1) 1)) 1))),(.sl 1 (elems (nth (flds (nth (flds r1) 1)) 2)))]),(.agg 1 [(.sl 1 (elems (nth (flds (nth (flds r1) 2)) 0))),(eI (getI (nth (flds (nth (flds r1) 2)) 1)))]),(.agg 3 (flds (nth (flds r1) 3)))])])
 (λr2=>ifO (hasT EE 6 3 r2)
 (zC (zA 39 [(.agg 4 [(.agg 0 [(.str (getS (nth (flds (nth (flds x0) 0)) 0))),(eI (getI (nth (flds (nth (flds x0) 0)) 1))),(.sl 3 (elems (nth (flds (nth (flds x0) 0)) 2)))]),(.agg 0 [(.str (getS (nth (flds (nth (flds x0) 1)) 0))),(.sl 1 (elems (nth (flds (nth (flds x0) 1)) 1))),(.sl 1 (elems (nth (flds (nth (flds x0) 1)) 2)))]),(.agg 1 [(.sl 1 (elems (nth (flds (nth (flds x0) 2)) 0))),(eI (getI (nth (flds (nth (flds x0) 2)) 1)))]),(.agg 3 (flds (nth (flds x0) 3)))])])
 (λr3=>ifO (hasT EE 6 3 r3)
 (some (.val (eI (IntKind.wrap .i64 ((getI r2) - (getI r3))))))
 (none))
 (λ_ _=>none))
 (none))
 (λ_ _=>none))
 (none))
 (λ_ _=>none))
 (none))
 (λ_ _=>none))
 (none) :=
 (zE (f:=99) (by kernel_rfl) (by kernel_rfl) (by kernel_rfl) [x0,x1,x2]).trans (by kernel_rfl)
theorem C203(x0 x1:DV):zA 203 [x0,x1] =
 ifO (zP (hasT EE 6) [58,176] [x0,x1])
 (zC (zA 267 [(.sl 3 (elems (nth (flds x0) 2)))])
 (λr0=>ifO (isNl r0)
 (some (.val (.agg 0 [(.str (getS (nth (flds x0) 0))),(eI (getI (nth (flds x0) 1))),(.sl 3 [(.agg 9 [(.str (getS (nth (flds x1) 0))),(.agg 1 [(eI (getI (nth (flds (nth (flds x1) 1)) 0))),(eI (getI (nth (flds (nth (flds x1) 1)) 1)))])])])])))
 (none))
 (λs1 l2=>ifO (s1 == 3)
 (ifO (decide ((List.length l2)=(List.length l2)))
 (ifO (decide ((((2 * ((List.length l2)+1))+200) * 32)<=281474976710656))
 (ifO (decide ((0+(List.length (l2++[(.agg 9 [(.str (getS (nth (flds x1) 0))),(.agg 1 [(eI (getI (nth (flds (nth (flds x1) 1)) 0))),(eI (getI (nth (flds (nth (flds x1) 1)) 1)))])])])))<=(List.length (l2++[(.agg 9 [(.str (getS (nth (flds x1) 0))),(.agg 1 [(eI (getI (nth (flds (nth (flds x1) 1)) 0))),(eI (getI (nth (flds (nth (flds x1) 1)) 1)))])])]))))
 (some (.val (.agg 0 [(.str (getS (nth (flds x0) 0))),(eI (getI (nth (flds x0) 1))),(.sl 3 (List.take (List.length (l2++[(.agg 9 [(.str (getS (nth (flds x1) 0))),(.agg 1 [(eI (getI (nth (flds (nth (flds x1) 1)) 0))),(eI (getI (nth (flds (nth (flds x1) 1)) 1)))])])])) (List.drop 0 (l2++[(.agg 9 [(.str (getS (nth (flds x1) 0))),(.agg 1 [(eI (getI (nth (flds (nth (flds x1) 1)) 0))),(eI (getI (nth (flds (nth (flds x1) 1)) 1)))])])]))))])))
 (none))
 (none))
 (none))
 (none)))
 (none) :=
 (zE (f:=203) (by kernel_rfl) (by kernel_rfl) (by kernel_rfl) [x0,x1]).trans (by kernel_rfl)
theorem C204(x0 x1:DV):zA 204 [x0,x1] =
 ifO (zP (hasT EE 6) [62,58] [x0,x1])
 (zC (zA 144 [(.agg 4 [(.agg 0 [(.str (getS (nth (flds (nth (flds x0) 0)) 0))),(eI (getI (nth (flds (nth (flds x0) 0)) 1))),(.sl 3 (elems (nth (flds (nth (flds x0) 0)) 2)))]),(.agg 0 [(.str (getS (nth (flds (nth (flds x0) 1)) 0))),(.sl 1 (elems (nth (flds (nth (flds x0) 1)) 1))),(.sl 1 (elems (nth (flds (nth (flds x0) 1)) 2)))]),(.agg 1 [(.sl 1 (elems (nth (flds (nth (flds x0) 2)) 0))),(eI (getI (nth (flds (nth (flds x0) 2)) 1)))]),(.agg 3 (flds (nth (flds x0) 3)))])])
 (λr0=>ifO (hasT EE 6 246 r0)
 (zC (zA 146 [(.agg 0 [(.str (getS (nth (flds x1) 0))),(eI (getI (nth (flds x1) 1))),(.sl 3 (elems (nth (flds x1) 2)))])])
 (λr1=>ifO (hasT EE 6 81 r1)
 (zC (zA 145 [(.agg 13 [(.agg 0 [(.str (getS (nth (flds (nth (flds r0) 0)) 0))),(.sl 1 (elems (nth (flds (nth (flds r0) 0)) 1))),(.sl 1 (elems (nth (flds (nth (flds r0) 0)) 2)))]),(.agg 1 [(.sl 1 (elems (nth (flds (nth (flds r0) 1)) 0))),(eI (getI (nth (flds (nth (flds r0) 1)) 1)))]),(.agg 3 (flds (nth (flds r0) 2)))]),(.sl 2 (elems r1)),(eI 0)])
 (λr2=>ifO (hasT EE 6 3 r2)
 (zC (zA 146 [(.agg 0 [(.str (getS (nth (flds (nth (flds x0) 0)) 0))),(eI (getI (nth (flds (nth (flds x0) 0)) 1))),(.sl 3 (elems (nth (flds (nth (flds x0) 0)) 2)))])])
 (λr3=>ifO (hasT EE 6 81 r3)
 (zC (zA 145 [(.agg 13 [(.agg 0 [(.str (getS (nth (flds (nth (flds r0) 0)) 0))),(.sl 1 (elems (nth (flds (nth (flds r0) 0)) 1))),(.sl 1 (elems (nth (flds (nth (flds r0) 0)) 2)))]),(.agg 1 [(.sl 1 (elems (nth (flds (nth (flds r0) 1)) 0))),(eI (getI (nth (flds (nth (flds r0) 1)) 1)))]),(.agg 3 (flds (nth (flds r0) 2)))]),(.sl 2 (elems r3)),(eI 0)])
 (λr4=>ifO (hasT EE 6 3 r4)
 (some (.val (eI (IntKind.wrap .i64 ((getI r2) - (getI r4))))))
 (none))
 (λ_ _=>none))
 (none))
 (λ_ _=>none))
 (none))
 (λ_ _=>none))
 (none))
 (λ_ _=>none))
 (none))
 (λ_ _=>none))
 (none) :=
 (zE (f:=204) (by kernel_rfl) (by kernel_rfl) (by kernel_rfl) [x0,x1]).trans (by kernel_rfl)
theorem C205(x0 x1 x2:DV):zA 205 [x0,x1,x2] =
 ifO (zP (hasT EE 6) [58,3,141] [x0,x1,x2])
 (ifO (decide (((0:Int)<=(((List.length (elems (nth (flds x0) 2))):Nat):Int))/\(((((List.length (elems (nth (flds x0) 2))):Nat):Int)=(((List.length (elems (nth (flds x0) 2))):Nat):Int))/\((((32:Int) * (((List.length (elems (nth (flds x0) 2))):Nat):Int))<=(281474976710656:Int))/\((((List.length (elems (nth (flds x0) 2))):Nat):Int)<=(9223372036854775807:Int))))))
 (ifO (decide ((0+(List.length (α:=DV) (List.replicate (Int.toNat (((List.length (elems (nth (flds x0) 2))):Nat):Int)) (.agg 9 [(.str (bs [])),(.agg 1 [(eI 0),(eI 0)])]))))<=(List.length (α:=DV) (List.replicate (Int.toNat (((List.length (elems (nth (flds x0) 2))):Nat):Int)) (.agg 9 [(.str (bs [])),(.agg 1 [(eI 0),(eI 0)])])))))
 (ifO (decide (((0:Int)<=(getI x1))/\((getI x1)<(((List.length (α:=DV) (List.replicate (Int.toNat (((List.length (elems (nth (flds x0) 2))):Nat):Int)) (.agg 9 [(.str (bs [])),(.agg 1 [(eI 0),(eI 0)])]))):Nat):Int))))
 (ifO (decide ((0+(Int.toNat (getI x1)))<(List.length (([]++(List.take (Min.min (List.length (elems (nth (flds x0) 2))) (List.length (α:=DV) (List.replicate (Int.toNat (((List.length (elems (nth (flds x0) 2))):Nat):Int)) (.agg 9 [(.str (bs [])),(.agg 1 [(eI 0),(eI 0)])])))) (elems (nth (flds x0) 2))))++(List.drop (0+(Min.min (List.length (elems (nth (flds x0) 2))) (List.length (α:=DV) (List.replicate (Int.toNat (((List.length (elems (nth (flds x0) 2))):Nat):Int)) (.agg 9 [(.str (bs [])),(.agg 1 [(eI 0),(eI 0)])]))))) (List.replicate (Int.toNat (((List.length (elems (nth (flds x0) 2))):Nat):Int)) (.agg 9 [(.str (bs [])),(.agg 1 [(eI 0),(eI 0)])])))))))
 (ifO (isAg 9 1 (nth (([]++(List.take (Min.min (List.length (elems (nth (flds x0) 2))) (List.length (α:=DV) (List.replicate (Int.toNat (((List.length (elems (nth (flds x0) 2))):Nat):Int)) (.agg 9 [(.str (bs [])),(.agg 1 [(eI 0),(eI 0)])])))) (elems (nth (flds x0) 2))))++(List.drop (0+(Min.min (List.length (elems (nth (flds x0) 2))) (List.length (α:=DV) (List.replicate (Int.toNat (((List.length (elems (nth (flds x0) 2))):Nat):Int)) (.agg 9 [(.str (bs [])),(.agg 1 [(eI 0),(eI 0)])]))))) (List.replicate (Int.toNat (((List.length (elems (nth (flds x0) 2))):Nat):Int)) (.agg 9 [(.str (bs [])),(.agg 1 [(eI 0),(eI 0)])])))) (0+(Int.toNat (getI x1)))))
 (ifO (decide ((0+(List.length (α:=DV) (List.replicate (Int.toNat (((List.length (elems (nth (flds x0) 2))):Nat):Int)) (.agg 9 [(.str (bs [])),(.agg 1 [(eI 0),(eI 0)])]))))<=(List.length (List.set (([]++(List.take (Min.min (List.length (elems (nth (flds x0) 2))) (List.length (α:=DV) (List.replicate (Int.toNat (((List.length (elems (nth (flds x0) 2))):Nat):Int)) (.agg 9 [(.str (bs [])),(.agg 1 [(eI 0),(eI 0)])])))) (elems (nth (flds x0) 2))))++(List.drop (0+(Min.min (List.length (elems (nth (flds x0) 2))) (List.length (α:=DV) (List.replicate (Int.toNat (((List.length (elems (nth (flds x0) 2))):Nat):Int)) (.agg 9 [(.str (bs [])),(.agg 1 [(eI 0),(eI 0)])]))))) (List.replicate (Int.toNat (((List.length (elems (nth (flds x0) 2))):Nat):Int)) (.agg 9 [(.str (bs [])),(.agg 1 [(eI 0),(eI 0)])])))) (0+(Int.toNat (getI x1))) (.agg 9 (List.set (flds (nth (([]++(List.take (Min.min (List.length (elems (nth (flds x0) 2))) (List.length (α:=DV) (List.replicate (Int.toNat (((List.length (elems (nth (flds x0) 2))):Nat):Int)) (.agg 9 [(.str (bs [])),(.agg 1 [(eI 0),(eI 0)])])))) (elems (nth (flds x0) 2))))++(List.drop (0+(Min.min (List.length (elems (nth (flds x0) 2))) (List.length (α:=DV) (List.replicate (Int.toNat (((List.length (elems (nth (flds x0) 2))):Nat):Int)) (.agg 9 [(.str (bs [])),(.agg 1 [(eI 0),(eI 0)])]))))) (List.replicate (Int.toNat (((List.length (elems (nth (flds x0) 2))):Nat):Int)) (.agg 9 [(.str (bs [])),(.agg 1 [(eI 0),(eI 0)])])))) (0+(Int.toNat (getI x1))))) 1 (.agg 1 [(eI (getI (nth (flds x2) 0))),(eI (getI (nth (flds x2) 1)))])))))))
 (some (.val (.agg 0 [(.str (getS (nth (flds x0) 0))),(eI (getI (nth (flds x0) 1))),(.sl 3 (List.take (List.length (α:=DV) (List.replicate (Int.toNat (((List.length (elems (nth (flds x0) 2))):Nat):Int)) (.agg 9 [(.str (bs [])),(.agg 1 [(eI 0),(eI 0)])]))) (List.drop 0 (List.set (([]++(List.take (Min.min (List.length (elems (nth (flds x0) 2))) (List.length (α:=DV) (List.replicate (Int.toNat (((List.length (elems (nth (flds x0) 2))):Nat):Int)) (.agg 9 [(.str (bs [])),(.agg 1 [(eI 0),(eI 0)])])))) (elems (nth (flds x0) 2))))++(List.drop (0+(Min.min (List.length (elems (nth (flds x0) 2))) (List.length (α:=DV) (List.replicate (Int.toNat (((List.length (elems (nth (flds x0) 2))):Nat):Int)) (.agg 9 [(.str (bs [])),(.agg 1 [(eI 0),(eI 0)])]))))) (List.replicate (Int.toNat (((List.length (elems (nth (flds x0) 2))):Nat):Int)) (.agg 9 [(.str (bs [])),(.agg 1 [(eI 0),(eI 0)])])))) (0+(Int.toNat (getI x1))) (.agg 9 (List.set (flds (nth (([]++(List.take (Min.min (List.length (elems (nth (flds x0) 2))) (List.length (α:=DV) (List.replicate (Int.toNat (((List.length (elems (nth (flds x0) 2))):Nat):Int)) (.agg 9 [(.str (bs [])),(.agg 1 [(eI 0),(eI 0)])])))) (elems (nth (flds x0) 2))))++(List.drop (0+(Min.min (List.length (elems (nth (flds x0) 2))) (List.length (α:=DV) (List.replicate (Int.toNat (((List.length (elems (nth (flds x0) 2))):Nat):Int)) (.agg 9 [(.str (bs [])),(.agg 1 [(eI 0),(eI 0)])]))))) (List.replicate (Int.toNat (((List.length (elems (nth (flds x0) 2))):Nat):Int)) (.agg 9 [(.str (bs [])),(.agg 1 [(eI 0),(eI 0)])])))) (0+(Int.toNat (getI x1))))) 1 (.agg 1 [(eI (getI (nth (flds x2) 0))),(eI (getI (nth (flds x2) 1)))])))))))])))
 (none))
 (none))
 (none))
 (none))
 (none))
 (none))
 (none) :=
 (zE (f:=205) (by kernel_rfl) (by kernel_rfl) (by kernel_rfl) [x0,x1,x2]).trans (by kernel_rfl)
def S14_1008a(v0 v1 v2 v3 v4 v5 v6 v7:Int)(v8:ByteArray)(v9:Int)(v10:List DV)(v11:ByteArray)(v12 v13 v14:List DV)(v15:Int)(v16:List DV)(v17:ByteArray)(v18 v19:Int):St :=
 stOf 95 [(2,(.d (eI v0))),(3,(.ptr 3 416 0 [])),(4,(.ptr 4 3 0 [])),(7,(.d (eI v1))),(8,(.d (eI v2))),(9,(.d (eI v3))),(10,(.d (eI v4))),(11,(.d (eI v5))),(12,(.d (eI v6))),(13,(.d (eI v7))),(14,(.d (eI 0)))] [(3,(.mk false (.dc 416 [(.agg 4 [(.agg 0 [(.str v8),(eI v9),(.sl 3 v10)]),(.agg 0 [(.str v11),(.sl 1 v12),(.sl 1 v13)]),(.agg 1 [(.sl 1 v14),(eI v15)]),(.agg 3 v16)])]))),(4,(.mk false (.dc 3 [(.agg 9 [(.str v17),(.agg 1 [(eI v18),(eI v19)])])])))]
noncomputable def qz(v0 v1 v2 v3 v4 v5 v6 v7:Int)(v8:ByteArray)(v9:Int)(v10:List DV)(v11:ByteArray)(v12 v13 v14:List DV)(v15:Int)(v16:List DV)(v17:ByteArray)(v18 v19:Int):Option CR:=goQ 14 1008 (S14_1008a v0 v1 v2 v3 v4 v5 v6 v7 v8 v9 v10 v11 v12 v13 v14 v15 v16 v17 v18 v19)
def S14_1012a(v0 v1 v2 v3 v4 v5 v6 v7:Int):St :=
 stOf 95 [(7,(.d (eI v0))),(8,(.d (eI v1))),(9,(.d (eI v2))),(10,(.d (eI v3))),(11,(.d (eI v4))),(12,(.d (eI v5))),(13,(.d (eI v6))),(14,(.d (eI v7)))] []
noncomputable def qy(v0 v1 v2 v3 v4 v5 v6 v7:Int):Option CR:=goQ 14 1012 (S14_1012a v0 v1 v2 v3 v4 v5 v6 v7)
theorem L14_1008a_eq(v0 v1 v2 v3 v4 v5 v6 v7:Int)(v8:ByteArray)(v9:Int)(v10:List DV)(v11:ByteArray)(v12 v13 v14:List DV)(v15:Int)(v16:List DV)(v17:ByteArray)(v18 v19:Int):qz v0 v1 v2 v3 v4 v5 v6 v7 v8 v9 v10 v11 v12 v13 v14 v15 v16 v17 v18 v19 =
 ifO (v6 == (0:Int))
 (zC (zA 98 [(.agg 0 [(.str v8),(eI v9),(.sl 3 v10)]),(eI v0),(.agg 1 [(eI v18),(eI v19)])])
 (λr48=>ifO (hasT EE 6 24 r48)
 (zC (zA 69 [(.agg 0 [(.str (getS (nth (flds r48) 0))),(eI (getI (nth (flds r48) 1))),(.sl 3 (elems (nth (flds r48) 2)))])])
 (λr49=>ifO (hasT EE 6 3 r49)
 (ifO ((getI r49) == (0:Int))
 (zC (zA 99 [(.agg 4 [(.agg 0 [(.str v8),(eI v9),(.sl 3 v10)]),(.agg 0 [(.str v11),(.sl 1 v12),(.sl 1 v13)]),(.agg 1 [(.sl 1 v14),(eI v15)]),(.agg 3 v16)]),(eI v0),(.agg 1 [(eI v18),(eI v19)])])
 (λr50=>ifO (hasT EE 6 3 r50)
 ((qy v1 v2 v3 v4 v5 (getI r49) v7 (getI r50)))
 (none))
 (λ_ _=>none))
 ((qy v1 v2 v3 v4 v5 (getI r49) v7 (0:Int))))
 (none))
 (λ_ _=>none))
 (none))
 (λ_ _=>none))
 ((qy v1 v2 v3 v4 v5 v6 v7 (0:Int))) :=
 (zU 14 1008 _).trans (by kernel_rfl)
theorem L14_1012a_eq(v0 v1 v2 v3 v4 v5 v6 v7:Int):qy v0 v1 v2 v3 v4 v5 v6 v7 =
 zC (zA 42 [(eI v0),(eI v1),(eI v4),(eI v6)])
 (λr57=>ifO (hasT EE 6 4 r57)
 (ifO (getB r57)
 (zC (zA 42 [(eI v2),(eI v3),(eI v5),(eI v7)])
 (λr58=>ifO (hasT EE 6 4 r58)
 (some (.val (.bool (getB r58))))
 (none))
 (λ_ _=>none))
 (some (.val (.bool false))))
 (none))
 (λ_ _=>none) :=
 (zU 14 1012 _).trans (by kernel_rfl)
theorem C14(x0 x1 x2:DV):zA 14 [x0,x1,x2] =
 ifO (zP (hasT EE 6) [34,143,3] [x0,x1,x2])
 (zC (zA 33 [])
 (λr0=>ifO (hasT EE 6 4 r0)
 (ifO (!(getB r0))
 (zC (zA 33 [])
 (λr1=>ifO (hasT EE 6 4 r1)
 (some (.val (.bool (getB r1))))
 (none))
 (λ_ _=>none))
 (zC (zA 21 [(.agg 4 [(.agg 0 [(.str (getS (nth (flds (nth (flds x0) 0)) 0))),(eI (getI (nth (flds (nth (flds x0) 0)) 1))),(.sl 3 (elems (nth (flds (nth (flds x0) 0)) 2)))]),(.agg 0 [(.str (getS (nth (flds (nth (flds x0) 1)) 0))),(.sl 1 (elems (nth (flds (nth (flds x0) 1)) 1))),(.sl 1 (elems (nth (flds (nth (flds x0) 1)) 2)))]),(.agg 1 [(.sl 1 (elems (nth (flds (nth (flds x0) 2)) 0))),(eI (getI (nth (flds (nth (flds x0) 2)) 1)))]),(.agg 3 (flds (nth (flds x0) 3)))]),(eI 6)])
 (λr4=>ifO (hasT EE 6 4 r4)
 (ifO (!(getB r4))
 (zC (zA 33 [])
 (λr5=>ifO (hasT EE 6 4 r5)
 (some (.val (.bool (getB r5))))
 (none))
 (λ_ _=>none))
 (ifO (decide ((((ByteArray.size (getS (nth (flds x1) 0))):Nat):Int)>(60:Int)))
 (zC (zA 33 [])
 (λr8=>ifO (hasT EE 6 4 r8)
 (some (.val (.bool (getB r8))))
 (none))
 (λ_ _=>none))
 (zC (zA 34 [(.agg 4 [(.agg 0 [(.str (getS (nth (flds (nth (flds x0) 0)) 0))),(eI (getI (nth (flds (nth (flds x0) 0)) 1))),(.sl 3 (elems (nth (flds (nth (flds x0) 0)) 2)))]),(.agg 0 [(.str (getS (nth (flds (nth (flds x0) 1)) 0))),(.sl 1 (elems (nth (flds (nth (flds x0) 1)) 1))),(.sl 1 (elems (nth (flds (nth (flds x0) 1)) 2)))]),(.agg 1 [(.sl 1 (elems (nth (flds (nth (flds x0) 2)) 0))),(eI (getI (nth (flds (nth (flds x0) 2)) 1)))]),(.agg 3 (flds (nth (flds x0) 3)))])])
 (λr11=>ifO (hasT EE 6 62 r11)
 (zC (zA 94 [(.agg 4 [(.agg 0 [(.str (getS (nth (flds (nth (flds r11) 0)) 0))),(eI (getI (nth (flds (nth (flds r11) 0)) 1))),(.sl 3 (elems (nth (flds (nth (flds r11) 0)) 2)))]),(.agg 0 [(.str (getS (nth (flds (nth (flds r11) 1)) 0))),(.sl 1 (elems (nth (flds (nth (flds r11) 1)) 1))),(.sl 1 (elems (nth (flds (nth (flds r11) 1)) 2)))]),(.agg 1 [(.sl 1 (elems (nth (flds (nth (flds r11) 2)) 0))),(eI (getI (nth (flds (nth (flds r11) 2)) 1)))]),(.agg 3 (flds (nth (flds r11) 3)))]),(.agg 9 [(.str (getS (nth (flds x1) 0))),(.agg 1 [(eI (getI (nth (flds (nth (flds x1) 1)) 0))),(eI (getI (nth (flds (nth (flds x1) 1)) 1)))])])])
 (λr12=>ifO ((DV.isTup r12) && (zP (hasT EE 6) [3,46] (tups r12)))
 (zC (zA 34 [(.agg 4 [(.agg 0 [(.str (getS (nth (flds (nth (flds x0) 0)) 0))),(eI (getI (nth (flds (nth (flds x0) 0)) 1))),(.sl 3 (elems (nth (flds (nth (flds x0) 0)) 2)))]),(.agg 0 [(.str (getS (nth (flds (nth (flds x0) 1)) 0))),(.sl 1 (elems (nth (flds (nth (flds x0) 1)) 1))),(.sl 1 (elems (nth (flds (nth (flds x0) 1)) 2)))]),(.agg 1 [(.sl 1 (elems (nth (flds (nth (flds x0) 2)) 0))),(eI (getI (nth (flds (nth (flds x0) 2)) 1)))]),(.agg 3 (flds (nth (flds x0) 3)))])])
 (λr13=>ifO (hasT EE 6 62 r13)
 (zC (zA 95 [(.agg 4 [(.agg 0 [(.str (getS (nth (flds (nth (flds r13) 0)) 0))),(eI (getI (nth (flds (nth (flds r13) 0)) 1))),(.sl 3 (elems (nth (flds (nth (flds r13) 0)) 2)))]),(.agg 0 [(.str (getS (nth (flds (nth (flds r13) 1)) 0))),(.sl 1 (elems (nth (flds (nth (flds r13) 1)) 1))),(.sl 1 (elems (nth (flds (nth (flds r13) 1)) 2)))]),(.agg 1 [(.sl 1 (elems (nth (flds (nth (flds r13) 2)) 0))),(eI (getI (nth (flds (nth (flds r13) 2)) 1)))]),(.agg 3 (flds (nth (flds r13) 3)))]),(eI (getI x2)),(.agg 1 [(eI (getI (nth (flds (nth (flds x1) 1)) 0))),(eI (getI (nth (flds (nth (flds x1) 1)) 1)))])])
 (λr14=>ifO ((DV.isTup r14) && (zP (hasT EE 6) [3,46] (tups r14)))
 (zC (zA 22 [(.agg 4 [(.agg 0 [(.str (getS (nth (flds (nth (flds x0) 0)) 0))),(eI (getI (nth (flds (nth (flds x0) 0)) 1))),(.sl 3 (elems (nth (flds (nth (flds x0) 0)) 2)))]),(.agg 0 [(.str (getS (nth (flds (nth (flds x0) 1)) 0))),(.sl 1 (elems (nth (flds (nth (flds x0) 1)) 1))),(.sl 1 (elems (nth (flds (nth (flds x0) 1)) 2)))]),(.agg 1 [(.sl 1 (elems (nth (flds (nth (flds x0) 2)) 0))),(eI (getI (nth (flds (nth (flds x0) 2)) 1)))]),(.agg 3 (flds (nth (flds x0) 3)))])])
 (λr15=>ifO (hasT EE 6 3 r15)
 (zC (zA 22 [(.agg 4 [(.agg 0 [(.str (getS (nth (flds (nth (flds x0) 0)) 0))),(eI (getI (nth (flds (nth (flds x0) 0)) 1))),(.sl 3 (elems (nth (flds (nth (flds x0) 0)) 2)))]),(.agg 0 [(.str (getS (nth (flds (nth (flds x0) 1)) 0))),(.sl 1 (elems (nth (flds (nth (flds x0) 1)) 1))),(.sl 1 (elems (nth (flds (nth (flds x0) 1)) 2)))]),(.agg 1 [(.sl 1 (elems (nth (flds (nth (flds x0) 2)) 0))),(eI (getI (nth (flds (nth (flds x0) 2)) 1)))]),(.agg 3 (flds (nth (flds x0) 3)))])])
 (λr16=>ifO (hasT EE 6 3 r16)
 (zC (zA 70 [(.agg 0 [(.str (getS (nth (flds (nth (flds x0) 0)) 0))),(eI (getI (nth (flds (nth (flds x0) 0)) 1))),(.sl 3 (elems (nth (flds (nth (flds x0) 0)) 2)))]),(eI (getI x2))])
 (λr17=>ifO (hasT EE 6 3 r17)
 (zC (zA 35 [(.sl 1 [(eI (getI r16)),(eI (getI r17))])])
 (λr18=>ifO (hasT EE 6 3 r18)
 (ifO ((getI r15) == (0:Int))
 (zC (zA 96 [(.agg 0 [(.str (getS (nth (flds (nth (flds x0) 0)) 0))),(eI (getI (nth (flds (nth (flds x0) 0)) 1))),(.sl 3 (elems (nth (flds (nth (flds x0) 0)) 2)))]),(.agg 9 [(.str (getS (nth (flds x1) 0))),(.agg 1 [(eI (getI (nth (flds (nth (flds x1) 1)) 0))),(eI (getI (nth (flds (nth (flds x1) 1)) 1)))])])])
 (λr19=>ifO (hasT EE 6 24 r19)
 (zC (zA 69 [(.agg 0 [(.str (getS (nth (flds r19) 0))),(eI (getI (nth (flds r19) 1))),(.sl 3 (elems (nth (flds r19) 2)))])])
 (λr20=>ifO (hasT EE 6 3 r20)
 (ifO ((getI r20) == (0:Int))
 (zC (zA 97 [(.agg 4 [(.agg 0 [(.str (getS (nth (flds (nth (flds x0) 0)) 0))),(eI (getI (nth (flds (nth (flds x0) 0)) 1))),(.sl 3 (elems (nth (flds (nth (flds x0) 0)) 2)))]),(.agg 0 [(.str (getS (nth (flds (nth (flds x0) 1)) 0))),(.sl 1 (elems (nth (flds (nth (flds x0) 1)) 1))),(.sl 1 (elems (nth (flds (nth (flds x0) 1)) 2)))]),(.agg 1 [(.sl 1 (elems (nth (flds (nth (flds x0) 2)) 0))),(eI (getI (nth (flds (nth (flds x0) 2)) 1)))]),(.agg 3 (flds (nth (flds x0) 3)))]),(.agg 9 [(.str (getS (nth (flds x1) 0))),(.agg 1 [(eI (getI (nth (flds (nth (flds x1) 1)) 0))),(eI (getI (nth (flds (nth (flds x1) 1)) 1)))])])])
 (λr21=>ifO (hasT EE 6 3 r21)
 ((qz (getI x2) (getI (nth (tups r12) 0)) (getI (nth (tups r12) 1)) (getI (nth (tups r14) 0)) (getI (nth (tups r14) 1)) (getI r20) (getI r18) (getI r21) (getS (nth (flds (nth (flds x0) 0)) 0)) (getI (nth (flds (nth (flds x0) 0)) 1)) (elems (nth (flds (nth (flds x0) 0)) 2)) (getS (nth (flds (nth (flds x0) 1)) 0)) (elems (nth (flds (nth (flds x0) 1)) 1)) (elems (nth (flds (nth (flds x0) 1)) 2)) (elems (nth (flds (nth (flds x0) 2)) 0)) (getI (nth (flds (nth (flds x0) 2)) 1)) (flds (nth (flds x0) 3)) (getS (nth (flds x1) 0)) (getI (nth (flds (nth (flds x1) 1)) 0)) (getI (nth (flds (nth (flds x1) 1)) 1))))
 (none))
 (λ_ _=>none))
 ((qz (getI x2) (getI (nth (tups r12) 0)) (getI (nth (tups r12) 1)) (getI (nth (tups r14) 0)) (getI (nth (tups r14) 1)) (getI r20) (getI r18) (0:Int) (getS (nth (flds (nth (flds x0) 0)) 0)) (getI (nth (flds (nth (flds x0) 0)) 1)) (elems (nth (flds (nth (flds x0) 0)) 2)) (getS (nth (flds (nth (flds x0) 1)) 0)) (elems (nth (flds (nth (flds x0) 1)) 1)) (elems (nth (flds (nth (flds x0) 1)) 2)) (elems (nth (flds (nth (flds x0) 2)) 0)) (getI (nth (flds (nth (flds x0) 2)) 1)) (flds (nth (flds x0) 3)) (getS (nth (flds x1) 0)) (getI (nth (flds (nth (flds x1) 1)) 0)) (getI (nth (flds (nth (flds x1) 1)) 1)))))
 (none))
 (λ_ _=>none))
 (none))
 (λ_ _=>none))
 ((qz (getI x2) (getI (nth (tups r12) 0)) (getI (nth (tups r12) 1)) (getI (nth (tups r14) 0)) (getI (nth (tups r14) 1)) (getI r15) (getI r18) (0:Int) (getS (nth (flds (nth (flds x0) 0)) 0)) (getI (nth (flds (nth (flds x0) 0)) 1)) (elems (nth (flds (nth (flds x0) 0)) 2)) (getS (nth (flds (nth (flds x0) 1)) 0)) (elems (nth (flds (nth (flds x0) 1)) 1)) (elems (nth (flds (nth (flds x0) 1)) 2)) (elems (nth (flds (nth (flds x0) 2)) 0)) (getI (nth (flds (nth (flds x0) 2)) 1)) (flds (nth (flds x0) 3)) (getS (nth (flds x1) 0)) (getI (nth (flds (nth (flds x1) 1)) 0)) (getI (nth (flds (nth (flds x1) 1)) 1)))))
 (none))
 (λ_ _=>none))
 (none))
 (λ_ _=>none))
 (none))
 (λ_ _=>none))
 (none))
 (λ_ _=>none))
 (none))
 (λ_ _=>none))
 (none))
 (λ_ _=>none))
 (none))
 (λ_ _=>none))
 (none))
 (λ_ _=>none))))
 (none))
 (λ_ _=>none)))
 (none))
 (λ_ _=>none))
 (none) :=
 (zE (f:=14) (by kernel_rfl) (by kernel_rfl) (by kernel_rfl) [x0,x1,x2]).trans (by kernel_rfl)
end Go.Am
namespace Go.Am
open Go.Proofs
open Go
variable[OO]
theorem C206(x0 x1:DV):zA 206 [x0,x1] =
 ifO (zP (hasT EE 6) [34,24] [x0,x1])
 (some (.val (.agg 4 [(.agg 0 [(.str (getS (nth (flds x1) 0))),(eI (getI (nth (flds x1) 1))),(.sl 3 (elems (nth (flds x1) 2)))]),(.agg 0 [(.str (getS (nth (flds (nth (flds x0) 1)) 0))),(.sl 1 (elems (nth (flds (nth (flds x0) 1)) 1))),(.sl 1 (elems (nth (flds (nth (flds x0) 1)) 2)))]),(.agg 1 [(.sl 1 (elems (nth (flds (nth (flds x0) 2)) 0))),(eI (getI (nth (flds (nth (flds x0) 2)) 1)))]),(.agg 3 (flds (nth (flds x0) 3)))])))
 (none) :=
 (zE (f:=206) (by kernel_rfl) (by kernel_rfl) (by kernel_rfl) [x0,x1]).trans (by kernel_rfl)
end Go.Am
namespace Go.Am
open Go.Proofs
open Go Go.RowKit Go.Proofs
def clone3_ren:Go.Shelf.Ren:=⟨λ| 41=>267 | n=>n,λ| 22=>56 | 23=>176 | 4=>4 | n=>n,λ| n=>n⟩
theorem zAS:Go.Proofs.SlLaysE0.n41 Tryz.prog clone3_ren:={
 mixed:=by kernel_rfl
 f41:=⟨Tryz.f267.name,by decide,Tryz.func267.trans (congrArg some (by kernel_rfl))⟩
 t4:=Tryz.underlying4
 a4:=Tryz.isAgg4
 z4:=Tryz.sizeOf4
 v4:=Tryz.zeroValue4
 t22:=Tryz.underlying56
 a22:=Tryz.isAgg56
 z22:=Tryz.sizeOf56
 v22:=Tryz.zeroValue56 }
section
open Go.Shelf
variable{P:Program}{ρ:Ren}
set_option maxHeartbeats 2000000 in
set_option maxRecDepth 100000 in
theorem clone_zeroE(L:SlLaysE0.n41 P ρ)(i0:TypeInfo)(z:Value)(hi:P.info? (ρ.t 23)=some i0)(hz0:i0.zero=some z)(size:Nat)(z23:∀w,(Go.sizeOf (ρ.t 23)).run P w=.ok size w)(a:Addr)(c:Nat)(w:World) :
  Calls P (ρ.f 41) #[.slice (some a) 0 c] w λe w'=>∃ad,e=.returned (.slice (some ad) 0 0)/\Below w.heap.size w w':=by
 have mixed:=L.mixed;have t4:=L.t4;have a4:=L.a4;have z4:=L.z4;have v4:=L.v4;have t22:=L.t22;have a22:=L.a22;have z22:=L.z22;have v22:=L.v22;have q22:∀(w:World) (a:Option Addr) (n c n' c':Nat),(binOp .eql (ρ.t 22) (.slice a n c) (.slice none n' c')).run P w=.ok (.bool a.isNone) w:=λw a n c n' c'=>Lib.run_eql_slice_nil w _ _ a n c n' c' L.t22
 have u22:∀w,Sem.run P (underlying (ρ.t 22)) w=.ok (TypeDesc.slice (ρ.t 23)) w:=run_underlying t22;obtain⟨_,_,FG⟩:=L.f41
 go_enter FG,SlBodyN.n41_ntmps ρ
 go_wp2_with (at_builtin;refine Yr rfl _ _ (ρ.t 22) rfl (ρ.t 23) i0 z t22 hi hz0 _ _ _ rfl rfl ?_)
 go_wp2;go_ret;exact⟨_,rfl,(Below.refl _ w).alloc (Nat.le_refl _) _⟩
end
def tbC(t:Tb):List Value:=[.string t.name,.int .i64 t.at'.x,.int .i64 t.at'.y]
theorem RD.tb{L:Nat->List Nat}{S:Nat->Prop}{w:World}{t:Tb}{cs:List Value}(h:RD L S w (eTb t) cs):cs=tbC t:=by
 cases h with
 | agg _ _ css hl h hz =>
  match css,hl with
  | [c0,c1],_ =>
   have e0:RD L S w (.str t.name) c0:=h 0 (by simp) (by simp)
   have e1:RD L S w (ePt t.at') c1:=h 1 (by simp) (by simp)
   have:=e0.str1;subst this;cases e1 with
   | agg _ _ css' hl' h' hz' =>
    match css',hl' with
    | [d0,d1],_ =>
     have f0:RD L S w (eI t.at'.x) d0:=h' 0 (by simp) (by simp)
     have f1:RD L S w (eI t.at'.y) d1:=h' 1 (by simp) (by simp)
     have:=f0.int1;subst this;have:=f1.int1;subst this;rfl
theorem rd_tb{S:Nat->Prop}{w:World}(t:Tb):RD EE.L S w (eTb t) (tbC t):=by
 have hp:=RD.agg (L:=EE.L) (S:=S) (w:=w) 1 [eI t.at'.x,eI t.at'.y] [[.int .i64 t.at'.x],[.int .i64 t.at'.y]] rfl (λi h h'=>by
  match i,h,h' with
  | 0,_,_=>exact .int _ _
  | 1,_,_=>exact .int _ _) (by kernel_rfl)
 exact RD.agg (L:=EE.L) (S:=S) (w:=w) 9 [.str t.name,ePt t.at'] [[.string t.name],[.int .i64 t.at'.x,.int .i64 t.at'.y]] rfl (λi h h'=>by
  match i,h,h' with
  | 0,_,_=>exact .str _
  | 1,_,_=>exact hp) (by kernel_rfl)
def freshT(l:List Tb):CR:=if l=[] then .val .nl else .fresh 3 (l.map eTb)
def T267(ds:List DV)(r:CR):Prop:=∃l:List Tb,l.length<=100000/\ds=[.sl 3 (l.map eTb)]/\r=freshT l
theorem flat3_len:∀l:List Tb,((l.map tbC).flatten).length=l.length * 3
 | []=>rfl
 | t :: l=>by have:=flat3_len l;simp only[List.map_cons,List.flatten_cons,List.length_append,List.length_cons,this];show 3+l.length * 3=_;omega
theorem flat3_one:∀l:List Tb,∀u∈(l.map tbC).flatten,u.oneCell'=true
 | [],u,h=>by simp at h
 | t :: l,u,h=>by
  simp only[List.map_cons,List.flatten_cons,List.mem_append] at h;rcases h with h | h
  ·simp only[tbC,List.mem_cons,List.not_mem_nil,or_false] at h;rcases h with rfl | rfl | rfl <;> rfl
  ·exact flat3_one l u h
theorem at267(ds:List DV)(r:CR):T267 ds r->QZ PP EE 267 ds r:=by
 rintro⟨l,hl,rfl,rfl⟩;refine⟨enters Tryz.func267 (by kernel_rfl) (by kernel_rfl),λS w vals hg hlt hlen hv=>?_⟩
 obtain⟨v,rfl⟩:∃v,vals=[v]:=List.length_eq_one_iff.1 hlen;have h0:=hv 0 (by simp) (by simp)
 simp only[List.getElem_cons_zero] at h0;obtain⟨a,c,css,rfl,hc,hcl,hel,hz,hm⟩:=RV.sl (E:=EE) h0;simp only[List.length_map] at hc hcl hel hm;have hcss:css=l.map tbC:=List.ext_getElem (by simpa using hcl) λi h1 h2=>by
  have:=hel i (by simpa using h2) h1
  rw[List.getElem_map] at this ⊢;exact RD.tb this
 obtain⟨i0,hi,hz0,hz1,hz2⟩:=info_parts (P:=Tryz.prog) (e:=176) (z:=.agg #[.string ⟨#[]⟩,.int .i64 0,.int .i64 0]) (size:=3) (bytes:=32) (by kernel_rfl)
 by_cases h:l=[]
 ·subst h;rw[show freshT []=.val .nl from rfl]
  cases a with
  | none=>exact(AnyE.slices_Clone_nil zAS 0 c w).mono λe w' ⟨h1,h2⟩=>⟨_,h1,by subst h2;exact Qu hlt (Below.refl _ _) ⟨RD.nl none,rfl⟩⟩
  | some ad=>exact(clone_zeroE zAS i0 _ hi hz0 3 Tryz.sizeOf176 ad c w).mono λe w' ⟨ad',h1,h2⟩=>⟨_,h1,Qu hlt h2 ⟨RD.nl (some ad'),rfl⟩⟩
 ·rw[show freshT l=.fresh 3 (l.map eTb) from if_neg h]
  have h0:0<l.length:=List.length_pos_iff.2 h;obtain⟨ad,rfl,hsp,hS,hcell⟩:=hm h0;have ead:ad=⟨ad.block,ad.off,none⟩:=by rw[<-hsp]
  rw[hcss] at hcell;simp only[List.length_map];rw[ead];refine(AnyE.slices_Clone zAS i0 _ 3 32 hi hz0 hz1 hz2 rfl (by omega) Tryz.sizeOf176 ad.block ad.off l.length c (l.map tbC).flatten w (flat3_len l) (by unfold maxLen;omega) (by omega) (λj u hj=>?_) (flat3_one l)).mono λe w' ⟨v',h1,hown,hne,hB⟩=>⟨v',h1,?_⟩
  ·have:=hcell j u hj;rw[jo hsp] at this;exact this
  ·rcases hown.2 with ⟨h2,_⟩ | ⟨g,cap,cur,rfl,hg1,hg2,hg3,hg4,hg5,hg6⟩
   ·exact absurd h2 hne
   ·refine⟨S,hB,λ_ h=>h,λ_ h=>.inl h,λb hb=>Nat.lt_of_lt_of_le (hlt b hb) hB.size,g,hg1,λhx=>absurd (hlt g hx) (by omega),λφ=>?_,λφ s hs=>?_⟩
    ·refine⟨cur,176,l.map tbC,hg2,by simp,λi h h'=>?_,λc hc=>?_,?_⟩
     ·simp only[List.getElem_map];exact rd_tb _
     ·obtain⟨m,_,rfl⟩:=List.mem_map.1 hc;rfl
     ·rw[List.prefix_iff_eq_take,flat3_len];exact hg6.symm
    ·refine⟨?_,rfl⟩;have:=RA.own (L:=EE.L) (S:=S) (φ:=φ) (w:=w') s 0 l.length 3 g cap hs hg3 ⟨cur,176,hg2,by omega⟩
     simpa[vcs,Value.cells] using this
end Go.Am
namespace Go.Am
open Go.Proofs
open Go
class KnT[OO]:Prop where
 clone:∀l:List Tb,l.length<=100000->zA 267 [.sl 3 (l.map eTb)]=some (freshT l)
variable[OO]
def qk(s:Si)(t:Tb):Si:=⟨s.name,s.least,s.tb++[t]⟩
def movS(s:Si)(i:Nat)(p:Pt):Si:=⟨s.name,s.least,s.tb.set i ⟨(s.tb.getD i default).name,p⟩⟩
def ofF(f:Fm)(s:Si):Fm:=⟨s,f.w,f.c,f.r⟩
theorem c96(s:Si)(t:Tb)(hl:s.tb.length<=100000):zA 96 [eSi s,eTb t]=some (.val (eSi (qk s t))):=by
 rw[C96];simp only[zK,zM,h24,h143,Bool.and_self,zB,zR,zS,zW,zb,zX,zF,zQ,List.length_map,List.nil_append];rw[decide_eq_true (by omega),zB]
 by_cases h:s.tb=[]
 ·simp[qk,h]
 ·have hne:(s.tb.map eTb).isEmpty=false:=by
   cases hs:s.tb with
   | nil=>exact absurd hs h
   | cons a l=>rfl
  rw[hne,za];simp only[decide_true,zB,List.length_map,List.length_append,List.length_cons,List.length_nil,Nat.zero_add,Nat.le_refl,List.drop_zero];rw[decide_eq_true (by omega),zB,List.take_of_length_le (by simp)]
  simp[qk]
theorem c203[KnT](s:Si)(t:Tb)(hl:s.tb.length<=100000):zA 203 [eSi s,eTb t]=some (.val (eSi (qk s t))):=by
 rw[C203];simp only[zK,zM,h58,h176,Bool.and_self,zB,zR,zS,zW,zb,zX,zF,zQ];rw[KnT.clone s.tb hl];unfold freshT;by_cases h:s.tb=[]
 ·rw[if_pos h];simp[qk,h,isNl]
 ·rw[if_neg h];simp only[JA,beq_self_eq_true,zB,decide_true,List.length_map,List.length_append,List.length_cons,List.length_nil,Nat.zero_add,Nat.le_refl,List.drop_zero];rw[decide_eq_true (by omega),zB,List.take_of_length_le (by simp)]
  simp[qk]
theorem set_tb(l:List Tb)(i:Nat)(h:i<l.length)(p:Pt):(l.map eTb).set i (.agg 9 ((flds (nth (l.map eTb) i)).set 1 (ePt p)))=(l.set i ⟨(l.getD i default).name,p⟩).map eTb:=by rw[List.map_set,zI eTb l i h,List.getD_eq_getElem?_getD,List.getElem?_eq_getElem h];rfl
theorem c98(s:Si)(i:Nat)(p:Pt)(hi:i<s.tb.length)(hl:s.tb.length<=100000):zA 98 [eSi s,eN i,ePt p]=some (.val (eSi (movS s i p))):=by
 rw[C98];simp only[zK,zM,h24,h3,h141,Bool.and_self,zB,zR,zS,zW,zb,zX,zF,zQ,List.length_map,List.nil_append,Nat.zero_add,Int.toNat_natCast];rw[decide_eq_true (by omega),zB]
 have hne:(s.tb.map eTb).isEmpty=false:=by
  cases hs:s.tb with
  | nil=>rw[hs] at hi;simp at hi
  | cons a l=>rfl
 have hag:isAg 9 1 (nth (s.tb.map eTb) i)=true:=by rw[zI eTb s.tb i hi];rfl
 have hs:=set_tb s.tb i hi p;rw[hne,za,decide_eq_true (by omega),zB,decide_eq_true hi,zB,hag,zB,hs]
 simp only[List.length_map,List.length_set,Nat.le_refl,decide_true,zB,List.drop_zero];rw[List.take_of_length_le (by simp)]
 rfl
theorem c205(s:Si)(i:Nat)(p:Pt)(hi:i<s.tb.length)(hl:s.tb.length<=100000):zA 205 [eSi s,eN i,ePt p]=some (.val (eSi (movS s i p))):=by
 rw[C205];have hag:isAg 9 1 (nth (s.tb.map eTb) i)=true:=by rw[zI eTb s.tb i hi];rfl
 have hs:=set_tb s.tb i hi p;have hcp:∀z:DV,([]++(s.tb.map eTb).take s.tb.length)++(List.replicate s.tb.length z).drop s.tb.length=s.tb.map eTb:=λz=>by
  rw[List.take_of_length_le (by simp),List.drop_of_length_le (by simp)]
  simp
 simp only[zK,zM,h58,h3,h141,Bool.and_self,zB,zR,zS,zW,zb,zX,zF,zQ,List.length_map,List.length_replicate,Int.toNat_natCast,Nat.zero_add,Nat.min_self,hcp];rw[decide_eq_true (show 0<=(s.tb.length:Int)/\True/\32 * (s.tb.length:Int)<=281474976710656/\(s.tb.length:Int)<=9223372036854775807 from⟨by omega,trivial,by omega,by omega⟩),zB]
 simp only[Nat.le_refl,decide_true,zB];rw[decide_eq_true (show(0:Int)<=(i:Int)/\(i:Int)<(s.tb.length:Int) by omega),zB,decide_eq_true hi,zB,hag,zB,hs]
 simp only[List.length_map,List.length_set,Nat.le_refl,decide_true,zB,List.drop_zero];rw[List.take_of_length_le (by simp)]
 rfl
theorem c206(f:Fm)(s:Si)(h:zm f.r):zA 206 [eFm f,eSi s]=some (.val (eFm (ofF f s))):=by rw[C206];simp only[zK,zM,hFm' f h,h24,Bool.and_self,zB,zR,zS,zW,zb,ze,zX,zF,zQ];rfl
def raiseI(f:Fm)(s:Si):Int:=jN f.w f.c f.r (psOf s) 0 - jN f.w f.c f.r (psOf f.s) 0
theorem okFm_of{f:Fm}{s:Si}(h:okFm f)(hs:z8 s=0):okFm (ofF f s):=by
 obtain⟨h1,_,_,_,h5⟩:=Jq hs;exact⟨h.w,h.k,h.c,h.r,h.q,by simpa[psOf,ofF] using h5,λp hp=>by
  obtain⟨t,ht,rfl⟩:=List.mem_map.1 hp;exact(h1 t ht).1⟩
theorem YT{f:Fm}(h:okFm f):0<=jN f.w f.c f.r (psOf f.s) 0/\jN f.w f.c f.r (psOf f.s) 0<=26738688000000000:=YU h.c f.w h.l 0 h.r h.q
theorem c204[KnW](f:Fm)(s:Si)(h:okFm f)(hs:z8 s=0):zA 204 [eFm f,eSi s]=some (.val (eI (raiseI f s))):=by
 have h2:=okFm_of h hs;have b1:=YT h;have b2:=YT h2;obtain⟨_,_,_,_,h5⟩:=Jq hs;have h6:f.s.tb.length<=64:=by have:=h.l;rwa [zn] at this
 have e1:=c145 (w:=f.w) (c:=f.c) (r:=f.r) (ps:=psOf s) h2 0 (by omega)
 have e2:=c145 (w:=f.w) (c:=f.c) (r:=f.r) (ps:=psOf f.s) h 0 (by omega)
 rw[C204];simp only[zK,zM,hFm f h.r,h58,Bool.and_self,zB,zR,zS,zW,zb,ze,zX,zF,zQ,c144 f h.r,zH,hMd _ _ _ h.r,c146 s (by omega),c146 f.s (by omega),h81,e1,e2,h3]
 have hb:(ofF f s).w=f.w/\(ofF f s).c=f.c/\(ofF f s).r=f.r/\(ofF f s).s=s:=⟨rfl,rfl,rfl,rfl⟩;rw[hb.1,hb.2.1,hb.2.2.1,hb.2.2.2] at b2;rw[wr _ (by omega)]
 rfl
def gainE(f:Fm)(t:Tb):Int:=if jM f=0 then z8 (qk f.s t) else jM f
theorem ifO_decT{p:Prop}[Decidable p](h:p)(x y:Option CR):ifO (decide p) x y=x:=by rw[decide_eq_true h];rfl
theorem ifO_decF{p:Prop}[Decidable p](h:¬p)(x y:Option CR):ifO (decide p) x y=y:=by rw[decide_eq_false h];rfl
theorem bne_z{x:Int}(h:x=0):(x != 0)=false:=by rw[h];rfl
theorem bne_n{x:Int}(h:x≠0):(x != 0)=true:=by simp[h]
theorem c94[KnW][KnT](f:Fm)(hr:zm f.r)(hl:f.s.tb.length<=100000)(t:Tb):zA 94 [eFm f,eTb t]=some (.val (.tup [eI (if gainE f t=0 then raiseI f (qk f.s t) else 0),eI (gainE f t)])):=by
 rw[C94];simp only[zK,zM,hFm f hr,h176,Bool.and_self,zB,zR,zS,zW,zb,ze,zX,zF,zQ,c40 f hr,zH,h46];unfold gainE;by_cases h0:jM f=0
 ·rw[bne_z h0,za,if_pos h0,c203 f.s t hl];simp only[zH,h58,zB,zR,zS,zW,zb,zX,zF,zQ,c158,h46];by_cases h1:z8 (qk f.s t)=0
  ·rw[bne_z h1,za,if_pos h1,c204 f _ (farm_ok h0 hr) h1];simp only[zH,h3,zB,zF,h1]
  ·rw[bne_n h1,zB,if_neg h1]
 ·rw[bne_n h0,zB,if_neg h0,if_neg h0]
def moveE(f:Fm)(i:Int)(p:Pt):Int:=if zL [jM f,idxE f.s.tb.length i]=0 then z8 (movS f.s i.toNat p) else zL [jM f,idxE f.s.tb.length i]
theorem c95[KnW](f:Fm)(hr:zm f.r)(hl:f.s.tb.length<=100000)(i:Int)(p:Pt):zA 95 [eFm f,eI i,ePt p]=some (.val (.tup [eI (if moveE f i p=0 then raiseI f (movS f.s i.toNat p) else 0),eI (moveE f i p)])):=by
 have hmain:zL [jM f,idxE f.s.tb.length i]=0->(∃k:Nat,i=k/\k<f.s.tb.length):=λh=>by have:=idx_ok (zy (zy h).2).1;exact⟨i.toNat,by omega,by omega⟩
 have e169:∀b:Bool,(b=true ↔ i<0\/i>=(f.s.tb.length:Int))->zA 169 [.bool b,eI 10]=some (.val (eI (idxE f.s.tb.length i))):=λb hb=>by
  rw[c169];unfold idxE;by_cases h:i<0\/i>=(f.s.tb.length:Int)
  ·rw[if_pos h,hb.2 h];rfl
  ·rw[if_neg h,Bool.eq_false_iff.2 (λe=>h (hb.1 e))];rfl
 rw[C95];simp only[zK,zM,hFm f hr,h3,h141,Bool.and_self,zB,zR,zS,zW,zb,ze,zX,zF,zQ,c40 f hr,zH,h46,List.length_map];unfold moveE;by_cases hneg:i<0
 ·refine(ifO_decT hneg _ _).trans ?_;have hidx:idxE f.s.tb.length i=10:=by unfold idxE;rw[if_pos (.inl hneg)]
  have hne:zL [jM f,10]≠0:=by unfold zL zL;split <;> simp_all
  rw[e169 true ⟨λ_=>.inl hneg,λ_=>rfl⟩]
  simp only[zH,h46,zB,zF,qY];rw[hidx,bne_n hne,zB,if_neg hne,if_neg hne]
 ·refine(ifO_decF hneg _ _).trans ?_;rw[e169 _ ⟨λe=>.inr (of_decide_eq_true e),λe=>decide_eq_true (e.resolve_left hneg)⟩]
  simp only[zH,h46,zB,zF,qY];by_cases h0:zL [jM f,idxE f.s.tb.length i]=0
  ·obtain⟨k,rfl,hk⟩:=hmain h0;rw[bne_z h0,za,if_pos h0,c205 f.s k p hk hl];simp only[zH,h58,zB,zR,zS,zW,zb,zX,zF,zQ,c158,h46,Int.toNat_natCast];by_cases h1:z8 (movS f.s k p)=0
   ·rw[bne_z h1,za,if_pos h1,c204 f _ (farm_ok (zy h0).1 hr) h1];simp only[zH,h3,zB,zF,h1]
   ·rw[bne_n h1,zB,if_neg h1]
  ·rw[bne_n h0,zB,if_neg h0,if_neg h0]
theorem c97(f:Fm)(h:okFm f)(t:Tb)(hl:f.s.tb.length<=100000)(hs:z8 (qk f.s t)=0):zA 97 [eFm f,eTb t]=some (.val (eI (raiseI f (qk f.s t)))):=by
 have h2:=okFm_of h hs;have b1:=YT h;have b2:=YT h2;have e1:=c39 (ofF f (qk f.s t)) h2;rw[C97];simp only[zK,zM,hFm' f h.r,h143,Bool.and_self,zB,zR,zS,zW,zb,ze,zX,zF,zQ,c96 f.s t hl,zH,h24,c206 f _ h.r,hFm' (ofF f (qk f.s t)) h.r];rw[e1];simp only[zH,h3,zB,zF,c39 f h];rw[wr _ (by omega)]
 rfl
theorem c99(f:Fm)(h:okFm f)(i:Nat)(p:Pt)(hi:i<f.s.tb.length)(hl:f.s.tb.length<=100000)(hs:z8 (movS f.s i p)=0):zA 99 [eFm f,eN i,ePt p]=some (.val (eI (raiseI f (movS f.s i p)))):=by
 have h2:=okFm_of h hs;have b1:=YT h;have b2:=YT h2;have e1:=c39 (ofF f (movS f.s i p)) h2;rw[C99];simp only[zK,zM,hFm' f h.r,h3,h141,Bool.and_self,zB,zR,zS,zW,zb,ze,zX,zF,zQ,c98 f.s i p hi hl,zH,h24,c206 f _ h.r,hFm' (ofF f (movS f.s i p)) h.r];rw[e1];simp only[zH,h3,zB,zF,c39 f h];rw[wr _ (by omega)]
 rfl
end Go.Am
namespace Go.Am
open Go.Proofs
open Go
variable[OO]
theorem fin14(g e1 one gain m e2 two mv:Int)(h1:numB g e1 one gain=true)(h2:numB m e2 two mv=true):qy g e1 m e2 one two gain mv=some (.val (.bool true)):=by have a1:=c42 g e1 one gain;have a2:=c42 m e2 two mv;rw[h1] at a1;rw[h2] at a2;rw[L14_1012a_eq];simp only[a1,a2,zH,h4,zi,zB]
theorem mid14[KnW](f:Fm)(hr:zm f.r)(hl:f.s.tb.length<=100000)(i:Int)(nm:ByteArray)(p:Pt)(g e1 one gain:Int)(h1:numB g e1 one gain=true) :
  qz i g e1 (if moveE f i p=0 then raiseI f (movS f.s i.toNat p) else 0) (moveE f i p) one (zL [jM f,idxE f.s.tb.length i]) gain f.s.name f.s.least (f.s.tb.map eTb) f.w.rule (f.w.d.map eI) (f.w.w.map eI) (f.c.p.map eI) f.c.cut (f.r.map eRow) nm p.x p.y=some (.val (.bool true)):=by
 rw[L14_1008a_eq];simp only[zw];by_cases h0:zL [jM f,idxE f.s.tb.length i]=0
 ·obtain⟨k,rfl,hk⟩:∃k:Nat,i=k/\k<f.s.tb.length:=by have:=idx_ok (zy (zy h0).2).1;exact⟨i.toNat,by omega,by omega⟩
  have e98:=c98 f.s k p hk hl;have hm:moveE f k p=z8 (movS f.s k p):=by unfold moveE;rw[if_pos h0,Int.toNat_natCast]
  rw[if_pos h0,e98,hm,Int.toNat_natCast];simp only[zH,h24,zB,zR,zS,zW,zb,zX,zF,zQ,c69,h3];by_cases h2:z8 (movS f.s k p)=0
  ·have e99:=c99 f (farm_ok (zy h0).1 hr) k p hk hl h2;refine(if_pos h2).trans ?_;rw[e99];simp only[zH,h3,zB,zF];exact fin14 _ _ _ _ _ _ _ _ h1 (numB_self _ _ _ (λ_=>if_pos h2) (λh=>absurd h2 h))
  ·refine(if_neg h2).trans ?_;exact fin14 _ _ _ _ _ _ _ _ h1 (numB_self _ _ _ (λh=>absurd h h2) (λ_=>if_neg h2))
 ·have hm:moveE f i p=zL [jM f,idxE f.s.tb.length i]:=by unfold moveE;rw[if_neg h0]
  rw[if_neg h0,hm];exact fin14 _ _ _ _ _ _ _ _ h1 (numB_self _ _ _ (λh=>absurd h h0) (λ_=>if_neg h0))
set_option maxHeartbeats 4000000 in
theorem law14[KnW][KnT](f:Fm)(hr:zm f.r)(t:Tb)(i:Int)(haw:zA 33 []=some (.val (.bool true))):zA 14 [eFm f,eTb t,eI i]=some (.val (.bool true)):=by
 rw[C14];simp only[haw,zH,zK,zM,hFm' f hr,h143,h3,h4,Bool.and_self,zB,zi,Bool.not_true,za,zR,zS,zW,zb,ze,zX,zF,zQ];rw[c21 f hr 6 (by omega)]
 cases hS:shortF f 6 with
 | false=>simp only[zH,h4,zB,zi,Bool.not_false]
 | true =>
  obtain⟨l1,l2,l3,l4⟩:=shortF_len hS;simp only[zH,h4,zB,zi,Bool.not_true,za];by_cases hn:((t.name.size:Nat):Int)>60
  ·exact ifO_decT hn _ _
  ·refine(ifO_decF hn _ _).trans ?_;have hl:f.s.tb.length<=100000:=by omega
   have e34:=c34 f hr (by omega) (by omega) (by omega) (by omega)
   simp only[e34,zH,hFm f hr,zB,zR,zS,zW,zb,ze,zX,zF,zQ,c94 f hr hl t,c95 f hr hl i t.at',c22 f hr,c70,c35_2,jA,jI,zK,zM,h3,h46,Bool.and_self];simp only[zw];by_cases h0:jM f=0
   ·refine(if_pos h0).trans ?_;have hg:gainE f t=z8 (qk f.s t):=by unfold gainE;rw[if_pos h0]
    rw[c96 f.s t hl,hg];simp only[zH,h24,zB,zR,zS,zW,zb,zX,zF,zQ,c69,h3];by_cases h2:z8 (qk f.s t)=0
    ·refine(if_pos h2).trans ?_;rw[c97 f (farm_ok h0 hr) t hl h2];simp only[zH,h3,zB,zF];exact mid14 f hr hl i _ t.at' _ _ _ _ (numB_self _ _ _ (λ_=>if_pos h2) (λh=>absurd h2 h))
    ·refine(if_neg h2).trans ?_;exact mid14 f hr hl i _ t.at' _ _ _ _ (numB_self _ _ _ (λh=>absurd h h2) (λ_=>if_neg h2))
   ·refine(if_neg h0).trans ?_;have hg:gainE f t=jM f:=by unfold gainE;rw[if_neg h0]
    rw[hg];exact mid14 f hr hl i _ t.at' _ _ _ _ (numB_self _ _ _ (λh=>absurd h h0) (λ_=>if_neg h0))
end Go.Am
namespace Go.Am
open Go.Proofs
open Go Go.RowKit
noncomputable def orc4(f:FuncId):Option (List DV->Option CR):=if f=267 then some (orT T267) else orc3 f
theorem orc4_ok(f:FuncId)(h:(orcF f).isNone=true):orc4 f=none:=by
 unfold orc4;split
 ·rename_i e;subst e;simp[orcF] at h
 ·exact orc3_ok f h
noncomputable abbrev oo4:OO:=⟨orc4,orc4_ok⟩
theorem env4:EnvOKo PP EE oo4.o:=by
 refine⟨zAC _ _ _,Jr,λf fn h=>E0_F _ _ _ f fn h,λf g h=>?_⟩
 have h:orc4 f=some g:=h;unfold orc4 at h;split at h
 ·rename_i e;subst e;injection h with h
  subst h;exact zAv at267
 ·exact env3.orc f g h
theorem o4{f:FuncId}(h:f≠267)(h':f≠50):oo4.o f=orc2 f:=(if_neg h:orc4 f=orc3 f).trans (o3 h')
theorem o450:oo4.o 50=some (orT T50):=(if_neg (by decide):orc4 50=orc3 50).trans o350
theorem o4267:oo4.o 267=some (orT T267):=(if_pos rfl:orc4 267=some (orT T267))
theorem knW4:@KnW oo4:=knW_of (o4 (f:=200) (by decide) (by decide))
theorem knO4:@KnO oo4:=knO_of (o4 (f:=68) (by decide) (by decide))
theorem knS4:@KnS oo4:=knS_of (o4 (f:=243) (by decide) (by decide)) (o4 (f:=161) (by decide) (by decide)) (o4 (f:=210) (by decide) (by decide)) (o4 (f:=208) (by decide) (by decide))
theorem knT4:@KnT oo4:=@KnT.mk oo4 λl hl=>YG (o:=oo4) (f:=267) o4267 ⟨l,hl,rfl,rfl⟩ (by
 rintro r' ⟨l',_,e,rfl⟩;injection e with e _
 rw[Y6 eTb_inj (qR e)])
theorem c50v4{p:Pn}{gs:List (List Int)}{n:Int}(h:@V50 oo2 p gs n):@zA oo4 50 [ePn p,eGs gs,eI n]=some (.val (.tup [eI (Yn p gs n).1,eI (Yn p gs n).2])):=by
 refine YG (o:=oo4) (f:=50) o450 (.inl ⟨p,gs,n,h,rfl,rfl⟩) ?_;rintro r' (⟨p',gs',n',_,e,rfl⟩ | ⟨hn,_⟩)
 ·injection e with e1 e;injection e with e2 e
  injection e with e3 _;rw[ePn_inj _ _ e1,eGs_inj e2,qX e3]
 ·exact(hn ⟨p,gs,n,h,rfl⟩).elim
theorem knB4:@KnB oo4:=@KnB.mk oo4 ((c50v4 v50S).trans (by rw[boundS]))
theorem awake4:@zA oo4 33 []=some (.val (.bool true)):=@awake oo4 knW4 knS4 knO4 knB4
end Go.Am
