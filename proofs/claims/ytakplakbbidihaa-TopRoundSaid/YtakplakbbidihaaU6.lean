/-
  Contracts of the layer's functions, of the laws' helpers and of the law; conditions: as each theorem states.
-/
import Derived.Test.YtakplakbbidihaaU5
import Derived.Test.YtakplakbbidihaaU4
import Derived.Test.YtakplakbbidihaaChecked
import Derived.Test.YtakplakbbidihaaV2
import Derived.Test.YtakplakbbidihaaV3
set_option linter.unusedVariables false
set_option linter.unusedSimpArgs false
namespace Go.Proofs.Ytakplakbbidihaa
open Go Go.V
abbrev o21_0:List Ins:=[⟨some 2,.box 3 (.t 0),none,true⟩,
 ⟨some 4,.mv (.k (.c (.bool false))),none,true⟩]
abbrev o21_1:List Ins:=[⟨some 7,.mv (.t 1),none,true⟩,
 ⟨some 8,.len (.t 7),none,true⟩,
 ⟨some 9,.fa 2 (.t 2),none,true⟩,
 ⟨some 10,.ld true 1 (.t 9),none,true⟩,
 ⟨some 11,.len (.t 10),none,true⟩,
 ⟨some 12,.bin .neq (.t 8) (.t 11),none,true⟩]
abbrev o21_2:List Ins:=[⟨some 4,.mv (.k (.c (.bool false))),none,true⟩]
abbrev v21_3:VC:=(.seq (.ops o21_2) .ret)
abbrev v21_4:VC:=(.cond (.t 12) v21_3 .skip)
abbrev o21_5:List Ins:=[⟨some 5,.mv (.k (.c (.int .i64 0))),none,true⟩]
abbrev o21_6:List Ins:=[⟨some 6,.mv (.k (.c (.int .i64 0))),none,true⟩]
abbrev o21_7:List Ins:=[⟨some 13,.mv (.t 6),none,true⟩,
 ⟨some 14,.mv (.t 1),none,true⟩,
 ⟨some 15,.len (.t 14),none,true⟩,
 ⟨some 16,.bin .lss (.t 13) (.t 15),none,true⟩]
abbrev v21_8:VC:=(.cond (.t 16) .skip (.exit 0))
abbrev o21_9:List Ins:=[⟨some 19,.mv (.t 1),none,true⟩,
 ⟨some 20,.mv (.t 6),none,true⟩,
 ⟨some 21,.ia 1 (.t 19) (.t 20),none,true⟩,
 ⟨some 22,.ld true 1 (.t 21),none,true⟩,
 ⟨some 23,.call (.k (.fn 33 [])) [(.t 22),(.k (.c (.int .i64 0))),(.k (.c (.int .i64 12)))],none,true⟩,
 ⟨some 24,.un .not (.t 23),none,true⟩]
abbrev o21_10:List Ins:=[⟨some 4,.mv (.k (.c (.bool false))),none,true⟩]
abbrev v21_11:VC:=(.seq (.ops o21_10) .ret)
abbrev v21_12:VC:=(.cond (.t 24) v21_11 .skip)
abbrev o21_13:List Ins:=[⟨some 25,.mv (.t 5),none,true⟩,
 ⟨some 26,.mv (.t 1),none,true⟩,
 ⟨some 27,.mv (.t 6),none,true⟩,
 ⟨some 28,.ia 1 (.t 26) (.t 27),none,true⟩,
 ⟨some 29,.ld true 1 (.t 28),none,true⟩,
 ⟨some 30,.bin .add (.t 25) (.t 29),none,true⟩,
 ⟨some 5,.mv (.t 30),none,true⟩]
abbrev v21_14:VC:=(.seq (.seq (.ops o21_9) v21_12) (.ops o21_13))
abbrev o21_15:List Ins:=[⟨some 17,.mv (.t 6),none,true⟩,
 ⟨some 18,.bin .add (.t 17) (.k (.c (.int .i64 1))),none,true⟩,
 ⟨some 6,.mv (.t 18),none,true⟩]
abbrev v21_16:VC:=(.seq (.block 1 v21_14) (.ops o21_15))
abbrev v21_17:VC:=(.seq (.seq (.ops o21_7) v21_8) v21_16)
-- K21_1: changed and kept: [6,5]
abbrev K21_1:List Nat:=[1]
abbrev v21_18:VC:=(.loop v21_17)
abbrev v21_19:VC:=(.block 0 v21_18)
abbrev o21_20:List Ins:=[⟨some 31,.mv (.t 5),none,true⟩,
 ⟨some 32,.bin .leq (.t 31) (.k (.c (.int .i64 12))),none,true⟩,
 ⟨some 4,.mv (.t 32),none,true⟩]
abbrev v21_21:VC:=(.seq (.ops o21_20) .ret)
abbrev v21_22:VC:=(.seq (.seq (.ops o21_6) v21_19) v21_21)
abbrev v21_23:VC:=(.seq (.ops o21_5) v21_22)
abbrev v21_24:VC:=(.seq (.seq (.ops o21_1) v21_4) v21_23)
def ir21:FC:=⟨2,33,[.t 4],(.seq (.ops o21_0) v21_24)⟩
abbrev o19_0:List Ins:=[⟨some 1,.box 8 (.t 0),none,true⟩,
 ⟨some 2,.mv (.k (.c (.raw (.slice none 0 0)))),none,true⟩]
abbrev o19_1:List Ins:=[⟨some 3,.fa 3 (.t 1),none,true⟩,
 ⟨some 4,.ld true 1 (.t 3),none,true⟩,
 ⟨some 5,.fa 5 (.t 1),none,true⟩,
 ⟨some 6,.ld true 1 (.t 5),none,true⟩,
 ⟨some 7,.call (.k (.fn 23 [])) [(.t 4),(.t 6)],none,true⟩,
 ⟨some 2,.mv (.t 7),none,true⟩]
abbrev v19_2:VC:=(.seq (.ops o19_1) .ret)
def ir19:FC:=⟨1,8,[.t 2],(.seq (.ops o19_0) v19_2)⟩
abbrev o26_0:List Ins:=[⟨some 1,.box 3 (.t 0),none,true⟩,
 ⟨some 2,.alloc [(.c (.int .i64 0)),(.c (.raw (.slice none 0 0))),(.c (.raw (.slice none 0 0)))],none,true⟩]
abbrev t26_1:OT:=(.cons ⟨some 3,.fa 0 (.t 1),none,false⟩
 (.cons ⟨some 4,.ld true 1 (.t 3),none,false⟩
 (.cons ⟨some 6,.fa 1 (.t 1),none,false⟩
 (.cons ⟨some 7,.ld true 1 (.t 6),none,false⟩
 (.cons ⟨some 10,.fa 2 (.t 1),none,false⟩
 (.cons ⟨some 11,.ld true 1 (.t 10),none,false⟩
 (.br [(.cons ⟨some 5,.bsl 3 1 [],none,false⟩
  (.br [(.cons ⟨some 8,.app 3 1 8 (.t 5) (.t 7),none,false⟩
   (.cons ⟨some 9,.bsl 3 1 [],none,false⟩
   (.cons ⟨some 12,.app 3 1 8 (.t 9) (.t 11),none,false⟩
   (.cons ⟨some 13,.bld [(.c (.int .i64 0)),(.c (.raw (.slice none 0 0))),(.c (.raw (.slice none 0 0)))] [(0,1,(.t 4)),(1,1,(.t 8)),(2,1,(.t 12))],none,true⟩
   (.cons ⟨none,.st 3 (.t 2) (.t 13),none,true⟩
   .nil))))),(.cons ⟨some 9,.bsl 3 1 [],none,false⟩
   (.cons ⟨some 8,.app 3 1 8 (.t 5) (.t 7),none,false⟩
   (.cons ⟨some 12,.app 3 1 8 (.t 9) (.t 11),none,false⟩
   (.cons ⟨some 13,.bld [(.c (.int .i64 0)),(.c (.raw (.slice none 0 0))),(.c (.raw (.slice none 0 0)))] [(0,1,(.t 4)),(1,1,(.t 8)),(2,1,(.t 12))],none,true⟩
   (.cons ⟨none,.st 3 (.t 2) (.t 13),none,true⟩
   .nil)))))])),(.cons ⟨some 9,.bsl 3 1 [],none,false⟩
  (.cons ⟨some 5,.bsl 3 1 [],none,false⟩
  (.cons ⟨some 8,.app 3 1 8 (.t 5) (.t 7),none,false⟩
  (.cons ⟨some 12,.app 3 1 8 (.t 9) (.t 11),none,false⟩
  (.cons ⟨some 13,.bld [(.c (.int .i64 0)),(.c (.raw (.slice none 0 0))),(.c (.raw (.slice none 0 0)))] [(0,1,(.t 4)),(1,1,(.t 8)),(2,1,(.t 12))],none,true⟩
  (.cons ⟨none,.st 3 (.t 2) (.t 13),none,true⟩
  .nil))))))])))))))
abbrev v26_2:VC:=(.seq (.drw t26_1) .ret)
def ir26:FC:=⟨1,14,[.cell 2 false 3],(.seq (.ops o26_0) v26_2)⟩
abbrev o10_0:List Ins:=[⟨some 1,.box 8 (.t 0),none,true⟩,
 ⟨some 2,.alloc [(.c (.int .i64 0)),(.c (.raw (.slice none 0 0))),(.c (.raw (.slice none 0 0))),(.c (.raw (.slice none 0 0))),(.c (.raw (.slice none 0 0))),(.c (.raw (.slice none 0 0))),(.c (.int .i64 0)),(.c (.int .i64 0))],none,true⟩]
abbrev o10_1:List Ins:=[⟨some 4,.ld false 8 (.t 1),none,true⟩,
 ⟨some 3,.alloc [(.c (.int .i64 0)),(.c (.raw (.slice none 0 0))),(.c (.raw (.slice none 0 0))),(.c (.raw (.slice none 0 0))),(.c (.raw (.slice none 0 0))),(.c (.raw (.slice none 0 0))),(.c (.int .i64 0)),(.c (.int .i64 0))],none,true⟩,
 ⟨none,.st 8 (.t 3) (.t 4),none,true⟩]
abbrev o10_2:List Ins:=[⟨some 5,.fa 0 (.t 1),none,true⟩,
 ⟨some 6,.ld false 3 (.t 5),none,true⟩,
 ⟨some 7,.call (.k (.fn 26 [])) [(.t 6)],none,true⟩,
 ⟨some 8,.fa 0 (.t 3),none,true⟩,
 ⟨none,.st 3 (.t 8) (.t 7),none,true⟩]
abbrev t10_3:OT:=(.cons ⟨some 10,.fa 3 (.t 1),none,false⟩
 (.cons ⟨some 11,.ld true 1 (.t 10),none,false⟩
 (.cons ⟨some 14,.fa 4 (.t 1),none,false⟩
 (.cons ⟨some 15,.ld true 1 (.t 14),none,false⟩
 (.cons ⟨some 18,.fa 5 (.t 1),none,false⟩
 (.cons ⟨some 19,.ld true 1 (.t 18),none,false⟩
 (.br [(.cons ⟨some 9,.bsl 3 1 [],none,false⟩
  (.br [(.cons ⟨some 12,.app 3 1 8 (.t 9) (.t 11),none,false⟩
   (.cons ⟨some 21,.fa 3 (.t 3),none,false⟩
   (.br [(.cons ⟨some 13,.bsl 3 1 [],none,false⟩
    (.br [(.cons ⟨some 16,.app 3 1 8 (.t 13) (.t 15),none,false⟩
     (.cons ⟨some 17,.bsl 3 1 [],none,false⟩
     (.cons ⟨some 20,.app 3 1 8 (.t 17) (.t 19),none,false⟩
     (.cons ⟨none,.st 1 (.t 21) (.t 12),none,true⟩
     (.cons ⟨some 22,.fa 4 (.t 3),none,true⟩
     (.cons ⟨none,.st 1 (.t 22) (.t 16),none,true⟩
     (.cons ⟨some 23,.fa 5 (.t 3),none,true⟩
     (.cons ⟨none,.st 1 (.t 23) (.t 20),none,true⟩
     .nil)))))))),(.cons ⟨some 17,.bsl 3 1 [],none,false⟩
     (.cons ⟨some 16,.app 3 1 8 (.t 13) (.t 15),none,false⟩
     (.cons ⟨some 20,.app 3 1 8 (.t 17) (.t 19),none,false⟩
     (.cons ⟨none,.st 1 (.t 21) (.t 12),none,true⟩
     (.cons ⟨some 22,.fa 4 (.t 3),none,true⟩
     (.cons ⟨none,.st 1 (.t 22) (.t 16),none,true⟩
     (.cons ⟨some 23,.fa 5 (.t 3),none,true⟩
     (.cons ⟨none,.st 1 (.t 23) (.t 20),none,true⟩
     .nil))))))))])),(.cons ⟨some 17,.bsl 3 1 [],none,false⟩
    (.cons ⟨some 13,.bsl 3 1 [],none,false⟩
    (.cons ⟨some 16,.app 3 1 8 (.t 13) (.t 15),none,false⟩
    (.cons ⟨some 20,.app 3 1 8 (.t 17) (.t 19),none,false⟩
    (.cons ⟨none,.st 1 (.t 21) (.t 12),none,true⟩
    (.cons ⟨some 22,.fa 4 (.t 3),none,true⟩
    (.cons ⟨none,.st 1 (.t 22) (.t 16),none,true⟩
    (.cons ⟨some 23,.fa 5 (.t 3),none,true⟩
    (.cons ⟨none,.st 1 (.t 23) (.t 20),none,true⟩
    .nil)))))))))]))),(.cons ⟨some 13,.bsl 3 1 [],none,false⟩
   (.br [(.cons ⟨some 12,.app 3 1 8 (.t 9) (.t 11),none,false⟩
    (.cons ⟨some 21,.fa 3 (.t 3),none,false⟩
    (.br [(.cons ⟨some 16,.app 3 1 8 (.t 13) (.t 15),none,false⟩
     (.cons ⟨some 17,.bsl 3 1 [],none,false⟩
     (.cons ⟨some 20,.app 3 1 8 (.t 17) (.t 19),none,false⟩
     (.cons ⟨none,.st 1 (.t 21) (.t 12),none,true⟩
     (.cons ⟨some 22,.fa 4 (.t 3),none,true⟩
     (.cons ⟨none,.st 1 (.t 22) (.t 16),none,true⟩
     (.cons ⟨some 23,.fa 5 (.t 3),none,true⟩
     (.cons ⟨none,.st 1 (.t 23) (.t 20),none,true⟩
     .nil)))))))),(.cons ⟨some 17,.bsl 3 1 [],none,false⟩
     (.cons ⟨some 16,.app 3 1 8 (.t 13) (.t 15),none,false⟩
     (.cons ⟨some 20,.app 3 1 8 (.t 17) (.t 19),none,false⟩
     (.cons ⟨none,.st 1 (.t 21) (.t 12),none,true⟩
     (.cons ⟨some 22,.fa 4 (.t 3),none,true⟩
     (.cons ⟨none,.st 1 (.t 22) (.t 16),none,true⟩
     (.cons ⟨some 23,.fa 5 (.t 3),none,true⟩
     (.cons ⟨none,.st 1 (.t 23) (.t 20),none,true⟩
     .nil))))))))]))),(.cons ⟨some 17,.bsl 3 1 [],none,false⟩
    (.cons ⟨some 12,.app 3 1 8 (.t 9) (.t 11),none,false⟩
    (.cons ⟨some 16,.app 3 1 8 (.t 13) (.t 15),none,false⟩
    (.cons ⟨some 20,.app 3 1 8 (.t 17) (.t 19),none,false⟩
    (.cons ⟨some 21,.fa 3 (.t 3),none,false⟩
    (.cons ⟨none,.st 1 (.t 21) (.t 12),none,true⟩
    (.cons ⟨some 22,.fa 4 (.t 3),none,true⟩
    (.cons ⟨none,.st 1 (.t 22) (.t 16),none,true⟩
    (.cons ⟨some 23,.fa 5 (.t 3),none,true⟩
    (.cons ⟨none,.st 1 (.t 23) (.t 20),none,true⟩
    .nil))))))))))])),(.cons ⟨some 17,.bsl 3 1 [],none,false⟩
   (.br [(.cons ⟨some 12,.app 3 1 8 (.t 9) (.t 11),none,false⟩
    (.cons ⟨some 13,.bsl 3 1 [],none,false⟩
    (.cons ⟨some 16,.app 3 1 8 (.t 13) (.t 15),none,false⟩
    (.cons ⟨some 20,.app 3 1 8 (.t 17) (.t 19),none,false⟩
    (.cons ⟨some 21,.fa 3 (.t 3),none,false⟩
    (.cons ⟨none,.st 1 (.t 21) (.t 12),none,true⟩
    (.cons ⟨some 22,.fa 4 (.t 3),none,true⟩
    (.cons ⟨none,.st 1 (.t 22) (.t 16),none,true⟩
    (.cons ⟨some 23,.fa 5 (.t 3),none,true⟩
    (.cons ⟨none,.st 1 (.t 23) (.t 20),none,true⟩
    .nil)))))))))),(.cons ⟨some 13,.bsl 3 1 [],none,false⟩
    (.cons ⟨some 12,.app 3 1 8 (.t 9) (.t 11),none,false⟩
    (.cons ⟨some 16,.app 3 1 8 (.t 13) (.t 15),none,false⟩
    (.cons ⟨some 20,.app 3 1 8 (.t 17) (.t 19),none,false⟩
    (.cons ⟨some 21,.fa 3 (.t 3),none,false⟩
    (.cons ⟨none,.st 1 (.t 21) (.t 12),none,true⟩
    (.cons ⟨some 22,.fa 4 (.t 3),none,true⟩
    (.cons ⟨none,.st 1 (.t 22) (.t 16),none,true⟩
    (.cons ⟨some 23,.fa 5 (.t 3),none,true⟩
    (.cons ⟨none,.st 1 (.t 23) (.t 20),none,true⟩
    .nil))))))))))]))])),(.cons ⟨some 13,.bsl 3 1 [],none,false⟩
  (.br [(.cons ⟨some 9,.bsl 3 1 [],none,false⟩
   (.br [(.cons ⟨some 12,.app 3 1 8 (.t 9) (.t 11),none,false⟩
    (.cons ⟨some 21,.fa 3 (.t 3),none,false⟩
    (.br [(.cons ⟨some 16,.app 3 1 8 (.t 13) (.t 15),none,false⟩
     (.cons ⟨some 17,.bsl 3 1 [],none,false⟩
     (.cons ⟨some 20,.app 3 1 8 (.t 17) (.t 19),none,false⟩
     (.cons ⟨none,.st 1 (.t 21) (.t 12),none,true⟩
     (.cons ⟨some 22,.fa 4 (.t 3),none,true⟩
     (.cons ⟨none,.st 1 (.t 22) (.t 16),none,true⟩
     (.cons ⟨some 23,.fa 5 (.t 3),none,true⟩
     (.cons ⟨none,.st 1 (.t 23) (.t 20),none,true⟩
     .nil)))))))),(.cons ⟨some 17,.bsl 3 1 [],none,false⟩
     (.cons ⟨some 16,.app 3 1 8 (.t 13) (.t 15),none,false⟩
     (.cons ⟨some 20,.app 3 1 8 (.t 17) (.t 19),none,false⟩
     (.cons ⟨none,.st 1 (.t 21) (.t 12),none,true⟩
     (.cons ⟨some 22,.fa 4 (.t 3),none,true⟩
     (.cons ⟨none,.st 1 (.t 22) (.t 16),none,true⟩
     (.cons ⟨some 23,.fa 5 (.t 3),none,true⟩
     (.cons ⟨none,.st 1 (.t 23) (.t 20),none,true⟩
     .nil))))))))]))),(.cons ⟨some 17,.bsl 3 1 [],none,false⟩
    (.cons ⟨some 12,.app 3 1 8 (.t 9) (.t 11),none,false⟩
    (.cons ⟨some 16,.app 3 1 8 (.t 13) (.t 15),none,false⟩
    (.cons ⟨some 20,.app 3 1 8 (.t 17) (.t 19),none,false⟩
    (.cons ⟨some 21,.fa 3 (.t 3),none,false⟩
    (.cons ⟨none,.st 1 (.t 21) (.t 12),none,true⟩
    (.cons ⟨some 22,.fa 4 (.t 3),none,true⟩
    (.cons ⟨none,.st 1 (.t 22) (.t 16),none,true⟩
    (.cons ⟨some 23,.fa 5 (.t 3),none,true⟩
    (.cons ⟨none,.st 1 (.t 23) (.t 20),none,true⟩
    .nil))))))))))])),(.cons ⟨some 17,.bsl 3 1 [],none,false⟩
   (.cons ⟨some 9,.bsl 3 1 [],none,false⟩
   (.cons ⟨some 12,.app 3 1 8 (.t 9) (.t 11),none,false⟩
   (.cons ⟨some 16,.app 3 1 8 (.t 13) (.t 15),none,false⟩
   (.cons ⟨some 20,.app 3 1 8 (.t 17) (.t 19),none,false⟩
   (.cons ⟨some 21,.fa 3 (.t 3),none,false⟩
   (.cons ⟨none,.st 1 (.t 21) (.t 12),none,true⟩
   (.cons ⟨some 22,.fa 4 (.t 3),none,true⟩
   (.cons ⟨none,.st 1 (.t 22) (.t 16),none,true⟩
   (.cons ⟨some 23,.fa 5 (.t 3),none,true⟩
   (.cons ⟨none,.st 1 (.t 23) (.t 20),none,true⟩
   .nil)))))))))))])),(.cons ⟨some 17,.bsl 3 1 [],none,false⟩
  (.br [(.cons ⟨some 9,.bsl 3 1 [],none,false⟩
   (.br [(.cons ⟨some 12,.app 3 1 8 (.t 9) (.t 11),none,false⟩
    (.cons ⟨some 13,.bsl 3 1 [],none,false⟩
    (.cons ⟨some 16,.app 3 1 8 (.t 13) (.t 15),none,false⟩
    (.cons ⟨some 20,.app 3 1 8 (.t 17) (.t 19),none,false⟩
    (.cons ⟨some 21,.fa 3 (.t 3),none,false⟩
    (.cons ⟨none,.st 1 (.t 21) (.t 12),none,true⟩
    (.cons ⟨some 22,.fa 4 (.t 3),none,true⟩
    (.cons ⟨none,.st 1 (.t 22) (.t 16),none,true⟩
    (.cons ⟨some 23,.fa 5 (.t 3),none,true⟩
    (.cons ⟨none,.st 1 (.t 23) (.t 20),none,true⟩
    .nil)))))))))),(.cons ⟨some 13,.bsl 3 1 [],none,false⟩
    (.cons ⟨some 12,.app 3 1 8 (.t 9) (.t 11),none,false⟩
    (.cons ⟨some 16,.app 3 1 8 (.t 13) (.t 15),none,false⟩
    (.cons ⟨some 20,.app 3 1 8 (.t 17) (.t 19),none,false⟩
    (.cons ⟨some 21,.fa 3 (.t 3),none,false⟩
    (.cons ⟨none,.st 1 (.t 21) (.t 12),none,true⟩
    (.cons ⟨some 22,.fa 4 (.t 3),none,true⟩
    (.cons ⟨none,.st 1 (.t 22) (.t 16),none,true⟩
    (.cons ⟨some 23,.fa 5 (.t 3),none,true⟩
    (.cons ⟨none,.st 1 (.t 23) (.t 20),none,true⟩
    .nil))))))))))])),(.cons ⟨some 13,.bsl 3 1 [],none,false⟩
   (.cons ⟨some 9,.bsl 3 1 [],none,false⟩
   (.cons ⟨some 12,.app 3 1 8 (.t 9) (.t 11),none,false⟩
   (.cons ⟨some 16,.app 3 1 8 (.t 13) (.t 15),none,false⟩
   (.cons ⟨some 20,.app 3 1 8 (.t 17) (.t 19),none,false⟩
   (.cons ⟨some 21,.fa 3 (.t 3),none,false⟩
   (.cons ⟨none,.st 1 (.t 21) (.t 12),none,true⟩
   (.cons ⟨some 22,.fa 4 (.t 3),none,true⟩
   (.cons ⟨none,.st 1 (.t 22) (.t 16),none,true⟩
   (.cons ⟨some 23,.fa 5 (.t 3),none,true⟩
   (.cons ⟨none,.st 1 (.t 23) (.t 20),none,true⟩
   .nil)))))))))))]))])))))))
abbrev o10_4:List Ins:=[⟨some 24,.ld false 8 (.t 3),none,true⟩,
 ⟨none,.st 8 (.t 2) (.t 24),none,true⟩]
abbrev v10_5:VC:=(.seq (.ops o10_4) .ret)
abbrev v10_6:VC:=(.seq (.drw t10_3) v10_5)
abbrev v10_7:VC:=(.seq (.ops o10_2) v10_6)
abbrev v10_8:VC:=(.seq (.ops o10_1) v10_7)
def ir10:FC:=⟨1,25,[.cell 2 false 8],(.seq (.ops o10_0) v10_8)⟩
theorem c21:compM Try.prog [] 21 = some ir21:=by kernel_rfl
theorem c19:compM Try.prog [] 19 = some ir19:=by kernel_rfl
theorem c26:compM Try.prog [] 26 = some ir26:=by kernel_rfl
theorem c10:compM Try.prog [] 10 = some ir10:=by kernel_rfl
attribute [local go_sem] Nat.reduceEqDiff Nat.reduceAdd Nat.reduceMul reduceIte Nat.reduceLeDiff Nat.reduceLT Nat.reduceBEq reduceCtorEq
def purB (w:Wh) (l:List Int):Bool:=lstB w l && decide (l.sum ≤ 12)
theorem purse21 {w:Wh} (hw:WhOk w) (l:List Int):FSpec Try.prog 21 [w.av,.c (ints l)] (.c (.bool (purB w l))):=by
 have hcl:=hw.cl
 refine FSpec_of c21 (Nat.le_refl _) (by decide) fun C hP hN hC hL => ?_; rw [init_st]
 simp only [ir21,Wh.av,Wh.avs]
 have hne:((l.length:Int) != (w.co.length:Int)) = !(l.length == w.co.length):=ibne _ _
 (repeat ((first | refine Va ?_ | refine Vb ?_ | refine Vc ?_ | refine Vd ?_ | refine Ve ?_ | refine Vf ?_); (try simp only [go_sem,hP,Wh.avs,ints,List.length_map,hne]); (repeat refine qJ ?_)))
 by_cases hlen:l.length = w.co.length
 case neg =>
  have hb2:(l.length == w.co.length) = false:=by simpa using hlen
  have e1:purB w l = false:=by unfold purB lstB; rw [hb2]; rfl
  rw [e1]
  (refine WV_cond rfl (fun h => ?_) (fun h => ?_))
  ·(repeat ((first | refine Va ?_ | refine Vb ?_ | refine Vc ?_ | refine Vd ?_ | refine Ve ?_ | refine Vf ?_); (try simp only [go_sem,hP]); (repeat refine qJ ?_)))
   (refine WV_ret ?_; simp only [thenQ,inQ,RetQ,RetOk,resAll,resA]; simp only [go_sem,tupA,AV.port,AV.portL,exists_eq_left']; (first | exact AVle.of rfl | refine AVle.of ?_ | skip))
  ·simp [hb2] at h
 have hb2:(l.length == w.co.length) = true:=by simpa using hlen
 (refine WV_cond rfl (fun h => ?_) (fun h => ?_))
 ·simp [hb2] at h
 have hlst:lstB w l = l.all fun n => within n 0 12:=by
  unfold lstB
  rw [hb2,Bool.not_true,Bool.false_or,List.not_any_eq_all_not]
  congr 1; funext n; simp [put12]
 (repeat ((first | refine Va ?_ | refine Vb ?_ | refine Vc ?_ | refine Vd ?_ | refine Ve ?_ | refine Vf ?_); (try simp only [go_sem,hP,ints,List.length_map]); (repeat refine qJ ?_)))
 refine WV_loopK K21_1 [] (fun k:Nat => k ≤ l.length ∧ (∀ n ∈ l.take k,within n 0 12 = true) ∧ 0 ≤ (l.take k).sum ∧ (l.take k).sum ≤ 12 * k) (fun k => l.length - k) (fun k => [(6,iv k),(5,iv (l.take k).sum)]) (fun _ => []) 0 ⟨by omega,by simp,by simp,by simp⟩ ?_ ?_
 ·exact Sub_au
 ·rintro k ⟨hk,hin,hs1,hs2⟩
  (repeat ((first | refine Va ?_ | refine Vb ?_ | refine Vc ?_ | refine Vd ?_ | refine Ve ?_ | refine Vf ?_); (try simp only [go_sem,hP,ints,List.length_map]); (repeat refine qJ ?_)))
  (refine WV_cond rfl (fun h => ?_) (fun h => ?_))
  ·have hi:k < l.length:=by simpa using h
   have g1:=ints_get hi
   have hm:l.getD k 0 ∈ l:=by rw [getD_at hi]; exact List.getElem_mem _
   have hs:(l.take (k + 1)).sum = (l.take k).sum + l.getD k 0:=by rw [List.take_succ_eq_append_getElem hi,List.sum_append,getD_at hi]; simp
   have ht:∀ n ∈ l.take (k + 1),n ∈ l.take k ∨ n = l.getD k 0:=fun n hn => by
    rw [List.take_succ_eq_append_getElem hi,List.mem_append,List.mem_singleton] at hn
    rw [getD_at hi]; exact hn
   generalize l.getD k 0 = x at *
   generalize (l.take k).sum = y at *
   (repeat ((first | refine Va ?_ | refine Vb ?_ | refine Vc ?_ | refine Vd ?_ | refine Ve ?_ | refine Vf ?_); (try simp only [go_sem,hP,g1,ints,List.length_map,Int.toNat_natCast,Int.ofNat_lt,hi,Int.natCast_nonneg]); (repeat refine qJ ?_)))
   (refine AS_pu (within33 x 0 12) ?_; simp only [go_sem,hP,ints]; (repeat refine qJ ?_); (repeat ((first | refine Va ?_ | refine Vb ?_ | refine Vc ?_ | refine Vd ?_ | refine Ve ?_ | refine Vf ?_); (try simp only [go_sem,hP,ints]); (repeat refine qJ ?_))))
   by_cases hx:within x 0 12 = true
   ·have hx2:0 ≤ x ∧ x ≤ 12:=by simpa [within] using hx
    have w1:=w64 (n:=(k:Int) + 1) (by omega) (by omega)
    have w2:=w64 (n:=y + x) (by omega) (by omega)
    (refine WV_cond rfl (fun h => ?_) (fun h => ?_))
    ·simp [hx] at h
    (repeat ((first | refine Va ?_ | refine Vb ?_ | refine Vc ?_ | refine Vd ?_ | refine Ve ?_ | refine Vf ?_); (try simp only [go_sem,hP,g1,ints,List.length_map,Int.toNat_natCast,Int.ofNat_lt,hi,Int.natCast_nonneg,w1,w2]); (repeat refine qJ ?_)))
    refine ⟨k + 1,⟨by omega,fun n hn => ?_,by omega,by omega⟩,by omega,?_⟩
    ·rcases ht n hn with h1 | rfl
     ·exact hin n h1
     ·exact hx
    ·rw [hs]
     (refine Sub_of (by simp only [go_sem]; ((repeat' (first | exact EnvLe_e0 _ _ | refine EnvLe_upd ?_ ?_)) <;> ((try simp only [upd_app,e0_app,o0_app,Nat.reduceEqDiff,reduceIte]); first | exact AWk.refl _ _ | exact AWk.int (by omega) | exact AWk.int (by rw [w64 (by omega) (by omega)]; omega) | exact AWk.grow rfl | exact AWk.nil _ | exact AWk.of (by simp [ints])))) (by simp only [go_sem]; exact ObjLe_au))
   ·have hx:within x 0 12 = false:=by simpa using hx
    have e1:purB w l = false:=by
     unfold purB
     rw [hlst,List.all_eq_false.2 ⟨x,hm,by simp [hx]⟩]; rfl
    rw [e1]
    (refine WV_cond rfl (fun h => ?_) (fun h => ?_))
    ·(repeat ((first | refine Va ?_ | refine Vb ?_ | refine Vc ?_ | refine Vd ?_ | refine Ve ?_ | refine Vf ?_); (try simp only [go_sem,hP]); (repeat refine qJ ?_)))
     (refine WV_ret ?_; simp only [thenQ,inQ,RetQ,RetOk,resAll,resA]; simp only [go_sem,tupA,AV.port,AV.portL,exists_eq_left']; (first | exact AVle.of rfl | refine AVle.of ?_ | skip))
    ·simp [hx] at h
  ·have hi:k = l.length:=by simp at h; omega
   subst hi
   rw [List.take_length] at hin ⊢
   have e1:purB w l = decide (l.sum ≤ 12):=by unfold purB; rw [hlst,List.all_eq_true.2 hin]; rfl
   rw [e1]
   (repeat ((first | refine Va ?_ | refine Vb ?_ | refine Vc ?_ | refine Vd ?_ | refine Ve ?_ | refine Vf ?_); (try simp only [go_sem,hP]); (repeat refine qJ ?_)))
   (refine WV_ret ?_; simp only [thenQ,inQ,RetQ,RetOk,resAll,resA]; simp only [go_sem,tupA,AV.port,AV.portL,exists_eq_left']; (first | exact AVle.of rfl | refine AVle.of ?_ | skip))
theorem put19 {b:Bx} (hl:b.fo.length = b.sl.length) (h5:b.fo.length ≤ 5) (ha:∀ n ∈ b.fo,0 ≤ n ∧ n ≤ 12) (hb:∀ n ∈ b.sl,0 ≤ n ∧ n ≤ 12):FSpec Try.prog 19 [b.av] (.c (ints (putL b))):=by
 refine FSpec_of c19 (Nat.le_refl _) (by decide) fun C hP hN hC hL => ?_; rw [init_st]
 simp only [ir19,Bx.av,Bx.avs]
 (repeat ((first | refine Va ?_ | refine Vb ?_ | refine Vc ?_ | refine Vd ?_ | refine Ve ?_ | refine Vf ?_); (try simp only [go_sem,hP,Bx.avs,ints]); (repeat refine qJ ?_)))
 (refine AS_pu (both23 hl h5 ha hb) ?_; simp only [go_sem,hP,ints]; (repeat refine qJ ?_); (repeat ((first | refine Va ?_ | refine Vb ?_ | refine Vc ?_ | refine Vd ?_ | refine Ve ?_ | refine Vf ?_); (try simp only [go_sem,hP,ints]); (repeat refine qJ ?_))))
 (refine WV_ret ?_; simp only [thenQ,inQ,RetQ,RetOk,resAll,resA]; simp only [go_sem,tupA,AV.port,AV.portL,exists_eq_left',putL]; (first | exact AVle.of rfl | refine AVle.of ?_ | skip))
theorem ones (l:List Int):((l.map fun n => [CD.int .i64 n]).all fun e => e.length == 1) = true:=by
 rw [List.all_eq_true]; intro e he; obtain ⟨n,_,rfl⟩:=List.mem_map.1 he; rfl
set_option maxHeartbeats 8000000 in
theorem copy26 {w:Wh} (h1:w.no.length ≤ 1000) (h2:w.co.length ≤ 1000):FSpec Try.prog 26 [w.av] w.av:=by
 have hmax:maxLen = 9223372036854775807:=rfl
 refine FSpec_of c26 (Nat.le_refl _) (by decide) fun C hP hN hC hL => ?_; rw [init_st]
 simp only [ir26,Wh.av,Wh.avs]
 (repeat ((first | refine Va ?_ | refine Vb ?_ | refine Vc ?_ | refine Vd ?_ | refine Ve ?_ | refine Vf ?_); (try simp only [go_sem,hP,Wh.avs,ints,List.length_map]); (repeat refine qJ ?_)))
 (refine WV_drw ?_; simp only [go_sem,hP,ints,List.length_map,ones]; (repeat' (refine And.intro ?_ ?_)))
 all_goals first | omega | skip
 all_goals ((refine WV_ret ?_; simp only [thenQ,inQ,RetQ,RetOk,resAll,resA]; simp only [go_sem,tupA,AV.port,AV.portL,exists_eq_left',ints]; (first | exact AVle.of rfl | refine AVle.of ?_ | skip)))
set_option maxHeartbeats 16000000 in
set_option maxRecDepth 20000 in
theorem copy10 {b:Bx} (h1:b.wh.no.length ≤ 1000) (h2:b.wh.co.length ≤ 1000) (h3:b.fo.length ≤ 1000) (h4:b.ma.length ≤ 1000) (h5:b.sl.length ≤ 1000):FSpec Try.prog 10 [b.av] b.av:=by
 have hmax:maxLen = 9223372036854775807:=rfl
 refine FSpec_of c10 (Nat.le_refl _) (by decide) fun C hP hN hC hL => ?_; rw [init_st]
 simp only [ir10,Bx.av,Bx.avs]
 (repeat ((first | refine Va ?_ | refine Vb ?_ | refine Vc ?_ | refine Vd ?_ | refine Ve ?_ | refine Vf ?_); (try simp only [go_sem,hP,Bx.avs,ints,List.length_map]); (repeat refine qJ ?_)))
 (refine AS_pu (copy26 h1 h2) ?_; simp only [go_sem,hP,Wh.av,Wh.avs,ints,List.length_map]; (repeat refine qJ ?_); (repeat ((first | refine Va ?_ | refine Vb ?_ | refine Vc ?_ | refine Vd ?_ | refine Ve ?_ | refine Vf ?_); (try simp only [go_sem,hP,Wh.av,Wh.avs,ints,List.length_map]); (repeat refine qJ ?_))))
 (refine WV_drw ?_; simp only [go_sem,hP,ints,List.length_map,ones]; (repeat' (refine And.intro ?_ ?_)))
 all_goals first | omega | skip
 all_goals ((repeat ((first | refine Va ?_ | refine Vb ?_ | refine Vc ?_ | refine Vd ?_ | refine Ve ?_ | refine Vf ?_); (try simp only [go_sem,hP]); (repeat refine qJ ?_))))
 all_goals ((refine WV_ret ?_; simp only [thenQ,inQ,RetQ,RetOk,resAll,resA]; simp only [go_sem,tupA,AV.port,AV.portL,exists_eq_left',ints]; (first | exact AVle.of rfl | refine AVle.of ?_ | skip)))
end Go.Proofs.Ytakplakbbidihaa

namespace Go.Proofs.Ytakplakbbidihaa
open Go Go.V
abbrev o8_0:List Ins:=[⟨some 1,.box 8 (.t 0),none,true⟩,
 ⟨some 2,.mv (.k (.c (.int .i64 0))),none,true⟩]
abbrev o8_1:List Ins:=[⟨some 4,.fa 0 (.t 1),none,true⟩,
 ⟨some 5,.ld false 3 (.t 4),none,true⟩,
 ⟨some 6,.call (.k (.fn 20 [])) [(.t 5)],none,true⟩,
 ⟨some 7,.bin .neq (.t 6) (.k (.c (.int .i64 0))),none,true⟩,
 ⟨some 8,.mv (.t 7),none,true⟩,
 ⟨some 9,.fa 0 (.t 1),(some (8,false)),true⟩,
 ⟨some 10,.ld false 3 (.t 9),(some (8,false)),true⟩,
 ⟨some 11,.fa 3 (.t 1),(some (8,false)),true⟩,
 ⟨some 12,.ld true 1 (.t 11),(some (8,false)),true⟩,
 ⟨some 13,.call (.k (.fn 21 [])) [(.t 10),(.t 12)],(some (8,false)),true⟩,
 ⟨some 14,.un .not (.t 13),(some (8,false)),true⟩,
 ⟨some 15,.pick (.t 8) (.k (.c (.bool true))) (.t 14),none,true⟩,
 ⟨some 16,.mv (.t 15),none,true⟩,
 ⟨some 17,.fa 0 (.t 1),(some (16,false)),true⟩,
 ⟨some 18,.ld false 3 (.t 17),(some (16,false)),true⟩,
 ⟨some 19,.fa 5 (.t 1),(some (16,false)),true⟩,
 ⟨some 20,.ld true 1 (.t 19),(some (16,false)),true⟩,
 ⟨some 21,.call (.k (.fn 21 [])) [(.t 18),(.t 20)],(some (16,false)),true⟩,
 ⟨some 22,.un .not (.t 21),(some (16,false)),true⟩,
 ⟨some 23,.pick (.t 16) (.k (.c (.bool true))) (.t 22),none,true⟩,
 ⟨some 24,.mv (.t 23),none,true⟩,
 ⟨some 25,.fa 4 (.t 1),(some (24,false)),true⟩,
 ⟨some 26,.ld true 1 (.t 25),(some (24,false)),true⟩,
 ⟨some 27,.len (.t 26),(some (24,false)),true⟩,
 ⟨some 28,.fa 3 (.t 1),(some (24,false)),true⟩,
 ⟨some 29,.ld true 1 (.t 28),(some (24,false)),true⟩,
 ⟨some 30,.len (.t 29),(some (24,false)),true⟩,
 ⟨some 31,.bin .neq (.t 27) (.t 30),(some (24,false)),true⟩,
 ⟨some 32,.pick (.t 24) (.k (.c (.bool true))) (.t 31),none,true⟩,
 ⟨some 33,.mv (.t 32),none,true⟩,
 ⟨some 34,.fa 6 (.t 1),(some (33,false)),true⟩,
 ⟨some 35,.ld true 1 (.t 34),(some (33,false)),true⟩,
 ⟨some 36,.call (.k (.fn 22 [])) [(.t 35),(.k (.c (.int .i64 0))),(.k (.c (.int .i64 9999)))],(some (33,false)),true⟩,
 ⟨some 37,.un .not (.t 36),(some (33,false)),true⟩,
 ⟨some 38,.pick (.t 33) (.k (.c (.bool true))) (.t 37),none,true⟩,
 ⟨some 39,.mv (.t 38),none,true⟩,
 ⟨some 40,.fa 7 (.t 1),(some (39,false)),true⟩,
 ⟨some 41,.ld true 1 (.t 40),(some (39,false)),true⟩,
 ⟨some 42,.call (.k (.fn 22 [])) [(.t 41),(.k (.c (.int .i64 0))),(.k (.c (.int .i64 9)))],(some (39,false)),true⟩,
 ⟨some 43,.un .not (.t 42),(some (39,false)),true⟩,
 ⟨some 44,.pick (.t 39) (.k (.c (.bool true))) (.t 43),none,true⟩]
abbrev o8_2:List Ins:=[⟨some 2,.mv (.k (.c (.int .i64 50))),none,true⟩]
abbrev v8_3:VC:=(.seq (.ops o8_2) .ret)
abbrev v8_4:VC:=(.cond (.t 44) v8_3 .skip)
abbrev o8_5:List Ins:=[⟨some 3,.mv (.k (.c (.int .i64 0))),none,true⟩]
abbrev o8_6:List Ins:=[⟨some 45,.mv (.t 3),none,true⟩,
 ⟨some 46,.fa 3 (.t 1),none,true⟩,
 ⟨some 47,.ld true 1 (.t 46),none,true⟩,
 ⟨some 48,.len (.t 47),none,true⟩,
 ⟨some 49,.bin .lss (.t 45) (.t 48),none,true⟩]
abbrev v8_7:VC:=(.cond (.t 49) .skip (.exit 0))
abbrev o8_8:List Ins:=[⟨some 52,.fa 4 (.t 1),none,false⟩,
 ⟨some 53,.ld true 1 (.t 52),none,false⟩,
 ⟨some 54,.mv (.t 3),none,false⟩,
 ⟨some 55,.ia 1 (.t 53) (.t 54),none,false⟩,
 ⟨some 56,.ld true 1 (.t 55),none,false⟩,
 ⟨some 57,.fa 3 (.t 1),none,false⟩,
 ⟨some 58,.ld true 1 (.t 57),none,false⟩,
 ⟨some 59,.mv (.t 3),none,false⟩,
 ⟨some 60,.ia 1 (.t 58) (.t 59),none,false⟩,
 ⟨some 61,.ld true 1 (.t 60),none,false⟩,
 ⟨some 62,.call (.k (.fn 22 [])) [(.t 56),(.k (.c (.int .i64 0))),(.t 61)],none,true⟩,
 ⟨some 63,.un .not (.t 62),none,true⟩]
abbrev o8_9:List Ins:=[⟨some 2,.mv (.k (.c (.int .i64 50))),none,true⟩]
abbrev v8_10:VC:=(.seq (.ops o8_9) .ret)
abbrev v8_11:VC:=(.cond (.t 63) v8_10 .skip)
abbrev v8_12:VC:=(.seq (.dops o8_8) v8_11)
abbrev o8_13:List Ins:=[⟨some 50,.mv (.t 3),none,true⟩,
 ⟨some 51,.bin .add (.t 50) (.k (.c (.int .i64 1))),none,true⟩,
 ⟨some 3,.mv (.t 51),none,true⟩]
abbrev v8_14:VC:=(.seq (.block 1 v8_12) (.ops o8_13))
abbrev v8_15:VC:=(.seq (.seq (.ops o8_6) v8_7) v8_14)
-- K8_1: changed and kept: [3]
abbrev K8_1:List Nat:=[1]
abbrev v8_16:VC:=(.loop v8_15)
abbrev v8_17:VC:=(.block 0 v8_16)
abbrev o8_18:List Ins:=[⟨some 64,.fa 0 (.t 1),none,false⟩,
 ⟨some 65,.ld false 3 (.t 64),none,false⟩,
 ⟨some 66,.fa 3 (.t 1),none,false⟩,
 ⟨some 67,.ld true 1 (.t 66),none,false⟩,
 ⟨some 68,.fa 5 (.t 1),none,false⟩,
 ⟨some 69,.ld true 1 (.t 68),none,false⟩,
 ⟨some 70,.call (.k (.fn 23 [])) [(.t 67),(.t 69)],none,false⟩,
 ⟨some 71,.call (.k (.fn 21 [])) [(.t 65),(.t 70)],none,true⟩,
 ⟨some 72,.un .not (.t 71),none,true⟩]
abbrev o8_19:List Ins:=[⟨some 2,.mv (.k (.c (.int .i64 50))),none,true⟩]
abbrev v8_20:VC:=(.seq (.ops o8_19) .ret)
abbrev v8_21:VC:=(.cond (.t 72) v8_20 .skip)
abbrev o8_22:List Ins:=[⟨some 2,.mv (.k (.c (.int .i64 0))),none,true⟩]
abbrev v8_23:VC:=(.seq (.ops o8_22) .ret)
abbrev v8_24:VC:=(.seq (.seq (.dops o8_18) v8_21) v8_23)
abbrev v8_25:VC:=(.seq (.seq (.ops o8_5) v8_17) v8_24)
abbrev v8_26:VC:=(.seq (.seq (.ops o8_1) v8_4) v8_25)
def ir8:FC:=⟨1,73,[.t 2],(.seq (.ops o8_0) v8_26)⟩
abbrev o7_0:List Ins:=[⟨some 1,.box 8 (.t 0),none,true⟩,
 ⟨some 2,.mv (.k (.c (.bool false))),none,true⟩]
abbrev o7_1:List Ins:=[⟨some 3,.fa 0 (.t 1),none,true⟩,
 ⟨some 4,.fa 1 (.t 3),none,true⟩,
 ⟨some 5,.ld true 1 (.t 4),none,true⟩,
 ⟨some 6,.len (.t 5),none,true⟩,
 ⟨some 7,.fa 0 (.t 1),none,true⟩,
 ⟨some 8,.fa 2 (.t 7),none,true⟩,
 ⟨some 9,.ld true 1 (.t 8),none,true⟩,
 ⟨some 10,.len (.t 9),none,true⟩,
 ⟨some 11,.fa 3 (.t 1),none,true⟩,
 ⟨some 12,.ld true 1 (.t 11),none,true⟩,
 ⟨some 13,.len (.t 12),none,true⟩,
 ⟨some 14,.fa 4 (.t 1),none,true⟩,
 ⟨some 15,.ld true 1 (.t 14),none,true⟩,
 ⟨some 16,.len (.t 15),none,true⟩,
 ⟨some 17,.fa 5 (.t 1),none,true⟩,
 ⟨some 18,.ld true 1 (.t 17),none,true⟩,
 ⟨some 19,.len (.t 18),none,true⟩,
 ⟨some 20,.mmn true [(.t 6),(.t 10),(.t 13),(.t 16),(.t 19)],none,true⟩,
 ⟨some 21,.bin .gtr (.t 20) (.k (.c (.int .i64 40))),none,true⟩]
abbrev o7_2:List Ins:=[⟨some 2,.mv (.k (.c (.bool true))),none,true⟩]
abbrev v7_3:VC:=(.seq (.ops o7_2) .ret)
abbrev v7_4:VC:=(.cond (.t 21) v7_3 .skip)
abbrev o7_5:List Ins:=[⟨some 22,.ld false 8 (.t 1),none,true⟩,
 ⟨some 23,.call (.k (.fn 8 [])) [(.t 22)],none,true⟩,
 ⟨some 24,.bin .eql (.t 23) (.k (.c (.int .i64 0))),none,true⟩,
 ⟨some 25,.mv (.t 24),none,true⟩,
 ⟨some 26,.ld false 8 (.t 1),(some (25,true)),true⟩,
 ⟨some 27,.call (.k (.fn 19 [])) [(.t 26)],(some (25,true)),true⟩,
 ⟨some 28,.call (.k (.fn 18 [])) [(.t 27)],(some (25,true)),true⟩,
 ⟨some 29,.bin .gtr (.t 28) (.k (.c (.int .i64 3))),(some (25,true)),true⟩,
 ⟨some 30,.mv (.t 29),(some (25,true)),true⟩,
 ⟨some 31,.fa 3 (.t 1),(some (30,false)),true⟩,
 ⟨some 32,.ld true 1 (.t 31),(some (30,false)),true⟩,
 ⟨some 33,.len (.t 32),(some (30,false)),true⟩,
 ⟨some 34,.bin .gtr (.t 33) (.k (.c (.int .i64 3))),(some (30,false)),true⟩,
 ⟨some 35,.pick (.t 30) (.k (.c (.bool true))) (.t 34),(some (25,true)),true⟩,
 ⟨some 36,.pick (.t 25) (.t 35) (.k (.c (.bool false))),none,true⟩,
 ⟨some 2,.mv (.t 36),none,true⟩]
abbrev v7_6:VC:=(.seq (.ops o7_5) .ret)
abbrev v7_7:VC:=(.seq (.seq (.ops o7_1) v7_4) v7_6)
def ir7:FC:=⟨1,37,[.t 2],(.seq (.ops o7_0) v7_7)⟩
theorem c8:compM Try.prog [] 8 = some ir8:=by kernel_rfl
theorem c7:compM Try.prog [] 7 = some ir7:=by kernel_rfl
attribute [local go_sem] Nat.reduceEqDiff Nat.reduceAdd Nat.reduceMul reduceIte Nat.reduceLeDiff Nat.reduceLT Nat.reduceBEq reduceCtorEq
def marK (b:Bx):Nat → Bool
 | 0 => true
 | k + 1 => marK b k && within (b.ma.getD k 0) 0 (b.fo.getD k 0)
theorem marK_false {b:Bx}:∀ {k m:Nat},marK b k = false → k ≤ m → marK b m = false
 | k,0,h,hm => by rwa [show k = 0 by omega] at h
 | k,m + 1,h,hm => by
  rcases Nat.lt_or_ge m k with h1 | h1
  ·rwa [show k = m + 1 by omega] at h
  ·simp only [marK,marK_false h h1,Bool.false_and]
def refOk (b:Bx):Bool:=whB b.wh && purB b.wh b.fo && purB b.wh b.sl && (b.ma.length == b.fo.length) && within b.pl 0 9999 && within b.sk 0 9 && marK b b.fo.length && purB b.wh (putL b)
def chkB (b:Bx):Int:=if refOk b then 0 else 50
theorem ref_bx {b:Bx} (h:refOk b = true):bxB b = true:=by
 simp only [refOk,purB,Bool.and_eq_true,beq_iff_eq,decide_eq_true_eq] at h
 obtain ⟨⟨⟨⟨⟨⟨⟨h1,h2,h2s⟩,h3,h3s⟩,h4⟩,h5⟩,h6⟩,h7⟩,h8,h8s⟩:=h
 have k2:=lstB_ok h2
 have k3:=lstB_ok h3
 have hm:∀ k,marK b k = true → ∀ i,i < k → 0 ≤ b.ma.getD i 0 ∧ b.ma.getD i 0 ≤ b.fo.getD i 0:=by
  intro k
  induction k with
  | zero => intro _ i hi; omega
  | succ k ih =>
   intro h i hi
   simp only [marK,Bool.and_eq_true,within,decide_eq_true_eq] at h
   rcases Nat.lt_or_ge i k with h9 | h9
   ·exact ih h.1 i h9
   ·obtain rfl:i = k:=by omega
    exact h.2
 have hml:lstB b.wh b.ma = true:=by
  unfold lstB
  have e1:(b.ma.length == b.wh.co.length) = true:=by rw [beq_iff_eq,h4,k2.1]
  have e2:b.ma.any put12 = false:=by
   rw [List.any_eq_false]
   intro n hn
   obtain ⟨i,hi,rfl⟩:=List.mem_iff_getElem.1 hn
   have:=hm _ h7 i (by omega)
   have h9:=getD_in k2.2 (k:=i) (by omega)
   rw [getD_at hi] at this
   simp [put12,within]; omega
  rw [e1,e2]; rfl
 have hmk:∀ k,k ≤ b.fo.length → mkK b.fo b.ma k = true:=by
  intro k
  induction k with
  | zero => intro _; rfl
  | succ k ih =>
   intro hk
   simp only [mkK,ih (by omega),Bool.true_and,decide_eq_true_eq]
   exact (hm _ h7 k (by omega)).2
 have hsum:∀ k,k ≤ b.fo.length → sumK b.fo b.sl k = ((putL b).take k).sum:=by
  intro k
  induction k with
  | zero => intro _; simp [sumK]
  | succ k ih =>
   intro hk
   have hp:k < (putL b).length:=by simp [putL,addL]; omega
   rw [List.take_succ_eq_append_getElem hp,List.sum_append,sumK,ih (by omega)]
   simp only [putL,addL,List.getElem_zipWith,getD_at (l:=b.fo) (k:=k) (by omega),getD_at (l:=b.sl) (k:=k) (by omega)]
   simp
 have hpl:(putL b).length = b.fo.length:=by simp [putL,addL]; omega
 have hs:=hsum b.fo.length (Nat.le_refl _)
 rw [List.take_of_length_le (by omega)] at hs
 unfold bxB
 rw [h1,h5,h6,h2,hml,h3,hmk _ (Nat.le_refl _),hs,decide_eq_true h8s]
 rfl
set_option maxHeartbeats 16000000 in
set_option maxRecDepth 20000 in
theorem check8 (b:Bx):FSpec Try.prog 8 [b.av] (iv (chkB b)):=by
 refine FSpec_of c8 (Nat.le_refl _) (by decide) fun C hP hN hC hL => ?_; rw [init_st]
 simp only [ir8,Bx.av,Bx.avs]
 have hbad:refOk b = false → chkB b = 50:=fun h => by unfold chkB; rw [h]; rfl
 have hb0:((0:Int) != 0) = false:=rfl
 have hne:((b.ma.length:Int) != (b.fo.length:Int)) = !(b.ma.length == b.fo.length):=ibne _ _
 (repeat ((first | refine Va ?_ | refine Vb ?_ | refine Vc ?_ | refine Vd ?_ | refine Ve ?_ | refine Vf ?_); (try simp only [go_sem,hP,Bx.avs,ints,List.length_map]); (repeat refine qJ ?_)))
 (refine AS_pu (check20 b.wh) ?_; simp only [go_sem,hP,Wh.av,Wh.avs,ints,List.length_map,hne]; (repeat refine qJ ?_); (repeat ((first | refine Va ?_ | refine Vb ?_ | refine Vc ?_ | refine Vd ?_ | refine Ve ?_ | refine Vf ?_); (try simp only [go_sem,hP,Wh.av,Wh.avs,ints,List.length_map,hne]); (repeat refine qJ ?_))))
 by_cases h1:whB b.wh = true
 case neg =>
  have h1:whB b.wh = false:=by simpa using h1
  have e0:whE b.wh = 10:=by unfold whE; rw [h1]; rfl
  rw [hbad (by unfold refOk; rw [h1]; rfl),e0]
  have hb1:((10:Int) != 0) = true:=rfl
  simp only [go_sem,hb1]
  (refine AG_skip ?_; simp only [go_sem,hP,List.length_map,hne]; (repeat refine qJ ?_); (repeat ((first | refine Va ?_ | refine Vb ?_ | refine Vc ?_ | refine Vd ?_ | refine Ve ?_ | refine Vf ?_); (try simp only [go_sem,hP,List.length_map,hne]); (repeat refine qJ ?_))))
  (refine AG_skip ?_; simp only [go_sem,hP,List.length_map,hne]; (repeat refine qJ ?_); (repeat ((first | refine Va ?_ | refine Vb ?_ | refine Vc ?_ | refine Vd ?_ | refine Ve ?_ | refine Vf ?_); (try simp only [go_sem,hP,List.length_map,hne]); (repeat refine qJ ?_))))
  (refine AG_skip ?_; simp only [go_sem,hP,List.length_map,hne]; (repeat refine qJ ?_); (repeat ((first | refine Va ?_ | refine Vb ?_ | refine Vc ?_ | refine Vd ?_ | refine Ve ?_ | refine Vf ?_); (try simp only [go_sem,hP,List.length_map,hne]); (repeat refine qJ ?_))))
  (refine AG_skip ?_; simp only [go_sem,hP,List.length_map,hne]; (repeat refine qJ ?_); (repeat ((first | refine Va ?_ | refine Vb ?_ | refine Vc ?_ | refine Vd ?_ | refine Ve ?_ | refine Vf ?_); (try simp only [go_sem,hP,List.length_map,hne]); (repeat refine qJ ?_))))
  (refine WV_cond rfl (fun h => ?_) (fun h => ?_))
  ·(repeat ((first | refine Va ?_ | refine Vb ?_ | refine Vc ?_ | refine Vd ?_ | refine Ve ?_ | refine Vf ?_); (try simp only [go_sem,hP]); (repeat refine qJ ?_)))
   (refine WV_ret ?_; simp only [thenQ,inQ,RetQ,RetOk,resAll,resA]; simp only [go_sem,tupA,AV.port,AV.portL,exists_eq_left']; (first | exact AVle.of rfl | refine AVle.of ?_ | skip))
  ·simp at h
 have e0:whE b.wh = 0:=by unfold whE; rw [if_pos h1]
 have hw:=whB_ok h1
 rw [e0]
 simp only [go_sem,hb0]
 (refine AG_pu (fun hG => purse21 hw b.fo) ?_; simp only [go_sem,hP,Wh.av,Wh.avs,ints,hb0,List.length_map,hne]; (repeat refine qJ ?_); (repeat ((first | refine Va ?_ | refine Vb ?_ | refine Vc ?_ | refine Vd ?_ | refine Ve ?_ | refine Vf ?_); (try simp only [go_sem,hP,Wh.av,Wh.avs,ints,hb0,List.length_map,hne]); (repeat refine qJ ?_))))
 by_cases h2:purB b.wh b.fo = true
 case neg =>
  have h2:purB b.wh b.fo = false:=by simpa using h2
  rw [hbad (by unfold refOk; rw [h2]; simp)]
  simp only [go_sem,h2]
  (refine AG_skip ?_; simp only [go_sem,hP,List.length_map,hne]; (repeat refine qJ ?_); (repeat ((first | refine Va ?_ | refine Vb ?_ | refine Vc ?_ | refine Vd ?_ | refine Ve ?_ | refine Vf ?_); (try simp only [go_sem,hP,List.length_map,hne]); (repeat refine qJ ?_))))
  (refine AG_skip ?_; simp only [go_sem,hP,List.length_map,hne]; (repeat refine qJ ?_); (repeat ((first | refine Va ?_ | refine Vb ?_ | refine Vc ?_ | refine Vd ?_ | refine Ve ?_ | refine Vf ?_); (try simp only [go_sem,hP,List.length_map,hne]); (repeat refine qJ ?_))))
  (refine AG_skip ?_; simp only [go_sem,hP,List.length_map,hne]; (repeat refine qJ ?_); (repeat ((first | refine Va ?_ | refine Vb ?_ | refine Vc ?_ | refine Vd ?_ | refine Ve ?_ | refine Vf ?_); (try simp only [go_sem,hP,List.length_map,hne]); (repeat refine qJ ?_))))
  (refine WV_cond rfl (fun h => ?_) (fun h => ?_))
  ·(repeat ((first | refine Va ?_ | refine Vb ?_ | refine Vc ?_ | refine Vd ?_ | refine Ve ?_ | refine Vf ?_); (try simp only [go_sem,hP]); (repeat refine qJ ?_)))
   (refine WV_ret ?_; simp only [thenQ,inQ,RetQ,RetOk,resAll,resA]; simp only [go_sem,tupA,AV.port,AV.portL,exists_eq_left']; (first | exact AVle.of rfl | refine AVle.of ?_ | skip))
  ·simp at h
 simp only [go_sem,h2]
 (refine AG_pu (fun hG => purse21 hw b.sl) ?_; simp only [go_sem,hP,Wh.av,Wh.avs,ints,hb0,h2,List.length_map,hne]; (repeat refine qJ ?_); (repeat ((first | refine Va ?_ | refine Vb ?_ | refine Vc ?_ | refine Vd ?_ | refine Ve ?_ | refine Vf ?_); (try simp only [go_sem,hP,Wh.av,Wh.avs,ints,hb0,h2,List.length_map,hne]); (repeat refine qJ ?_))))
 by_cases h3:purB b.wh b.sl = true
 case neg =>
  have h3:purB b.wh b.sl = false:=by simpa using h3
  rw [hbad (by unfold refOk; rw [h3]; simp)]
  simp only [go_sem,h3]
  (refine AG_skip ?_; simp only [go_sem,hP,List.length_map,hne]; (repeat refine qJ ?_); (repeat ((first | refine Va ?_ | refine Vb ?_ | refine Vc ?_ | refine Vd ?_ | refine Ve ?_ | refine Vf ?_); (try simp only [go_sem,hP,List.length_map,hne]); (repeat refine qJ ?_))))
  (refine AG_skip ?_; simp only [go_sem,hP,List.length_map,hne]; (repeat refine qJ ?_); (repeat ((first | refine Va ?_ | refine Vb ?_ | refine Vc ?_ | refine Vd ?_ | refine Ve ?_ | refine Vf ?_); (try simp only [go_sem,hP,List.length_map,hne]); (repeat refine qJ ?_))))
  (refine WV_cond rfl (fun h => ?_) (fun h => ?_))
  ·(repeat ((first | refine Va ?_ | refine Vb ?_ | refine Vc ?_ | refine Vd ?_ | refine Ve ?_ | refine Vf ?_); (try simp only [go_sem,hP]); (repeat refine qJ ?_)))
   (refine WV_ret ?_; simp only [thenQ,inQ,RetQ,RetOk,resAll,resA]; simp only [go_sem,tupA,AV.port,AV.portL,exists_eq_left']; (first | exact AVle.of rfl | refine AVle.of ?_ | skip))
  ·simp at h
 by_cases h4:b.ma.length = b.fo.length
 case neg =>
  have hb4:(b.ma.length == b.fo.length) = false:=by simpa using h4
  rw [hbad (by unfold refOk; rw [hb4]; simp)]
  simp only [go_sem,h3,hb4]
  (refine AG_skip ?_; simp only [go_sem,hP,List.length_map,hne]; (repeat refine qJ ?_); (repeat ((first | refine Va ?_ | refine Vb ?_ | refine Vc ?_ | refine Vd ?_ | refine Ve ?_ | refine Vf ?_); (try simp only [go_sem,hP,List.length_map,hne]); (repeat refine qJ ?_))))
  (refine AG_skip ?_; simp only [go_sem,hP,List.length_map,hne]; (repeat refine qJ ?_); (repeat ((first | refine Va ?_ | refine Vb ?_ | refine Vc ?_ | refine Vd ?_ | refine Ve ?_ | refine Vf ?_); (try simp only [go_sem,hP,List.length_map,hne]); (repeat refine qJ ?_))))
  (refine WV_cond rfl (fun h => ?_) (fun h => ?_))
  ·(repeat ((first | refine Va ?_ | refine Vb ?_ | refine Vc ?_ | refine Vd ?_ | refine Ve ?_ | refine Vf ?_); (try simp only [go_sem,hP]); (repeat refine qJ ?_)))
   (refine WV_ret ?_; simp only [thenQ,inQ,RetQ,RetOk,resAll,resA]; simp only [go_sem,tupA,AV.port,AV.portL,exists_eq_left']; (first | exact AVle.of rfl | refine AVle.of ?_ | skip))
  ·simp at h
 have hb4:(b.ma.length == b.fo.length) = true:=by simpa using h4
 simp only [go_sem,h3,hb4]
 (refine AG_pu (fun hG => within22 b.pl 0 9999) ?_; simp only [go_sem,hP,ints,hb0,h3,hb4,List.length_map,hne]; (repeat refine qJ ?_); (repeat ((first | refine Va ?_ | refine Vb ?_ | refine Vc ?_ | refine Vd ?_ | refine Ve ?_ | refine Vf ?_); (try simp only [go_sem,hP,ints,hb0,h3,hb4,List.length_map,hne]); (repeat refine qJ ?_))))
 by_cases h5:within b.pl 0 9999 = true
 case neg =>
  have h5:within b.pl 0 9999 = false:=by simpa using h5
  rw [hbad (by unfold refOk; rw [h5]; simp)]
  simp only [go_sem,h5]
  (refine AG_skip ?_; simp only [go_sem,hP,List.length_map,hne]; (repeat refine qJ ?_); (repeat ((first | refine Va ?_ | refine Vb ?_ | refine Vc ?_ | refine Vd ?_ | refine Ve ?_ | refine Vf ?_); (try simp only [go_sem,hP,List.length_map,hne]); (repeat refine qJ ?_))))
  (refine WV_cond rfl (fun h => ?_) (fun h => ?_))
  ·(repeat ((first | refine Va ?_ | refine Vb ?_ | refine Vc ?_ | refine Vd ?_ | refine Ve ?_ | refine Vf ?_); (try simp only [go_sem,hP]); (repeat refine qJ ?_)))
   (refine WV_ret ?_; simp only [thenQ,inQ,RetQ,RetOk,resAll,resA]; simp only [go_sem,tupA,AV.port,AV.portL,exists_eq_left']; (first | exact AVle.of rfl | refine AVle.of ?_ | skip))
  ·simp at h
 simp only [go_sem,h5]
 (refine AG_pu (fun hG => within22 b.sk 0 9) ?_; simp only [go_sem,hP,ints,hb0,h5,List.length_map,hne]; (repeat refine qJ ?_); (repeat ((first | refine Va ?_ | refine Vb ?_ | refine Vc ?_ | refine Vd ?_ | refine Ve ?_ | refine Vf ?_); (try simp only [go_sem,hP,ints,hb0,h5,List.length_map,hne]); (repeat refine qJ ?_))))
 by_cases h6:within b.sk 0 9 = true
 case neg =>
  have h6:within b.sk 0 9 = false:=by simpa using h6
  rw [hbad (by unfold refOk; rw [h6]; simp)]
  (refine WV_cond rfl (fun h => ?_) (fun h => ?_))
  ·(repeat ((first | refine Va ?_ | refine Vb ?_ | refine Vc ?_ | refine Vd ?_ | refine Ve ?_ | refine Vf ?_); (try simp only [go_sem,hP]); (repeat refine qJ ?_)))
   (refine WV_ret ?_; simp only [thenQ,inQ,RetQ,RetOk,resAll,resA]; simp only [go_sem,tupA,AV.port,AV.portL,exists_eq_left']; (first | exact AVle.of rfl | refine AVle.of ?_ | skip))
  ·simp [h6] at h
 (refine WV_cond rfl (fun h => ?_) (fun h => ?_))
 ·simp [h6] at h
 clear h
 have hfl:b.fo.length = b.wh.co.length:=by
  simp only [purB,Bool.and_eq_true] at h2
  exact (lstB_ok h2.1).1
 have hcl:=hw.cl
 have hmb:marK b b.fo.length = false → chkB b = 50:=fun h => hbad (by unfold refOk; rw [h]; simp)
 have hrest:marK b b.fo.length = true → chkB b = if purB b.wh (putL b) then 0 else 50:=fun h => by
  have:refOk b = purB b.wh (putL b):=by unfold refOk; rw [h1,h2,h3,hb4,h5,h6,h]; rfl
  unfold chkB; rw [this]
 (repeat ((first | refine Va ?_ | refine Vb ?_ | refine Vc ?_ | refine Vd ?_ | refine Ve ?_ | refine Vf ?_); (try simp only [go_sem,hP,ints,List.length_map]); (repeat refine qJ ?_)))
 refine WV_loopK K8_1 [] (fun k:Nat => k ≤ b.fo.length ∧ marK b k = true) (fun k => b.fo.length - k) (fun k => [(3,iv k)]) (fun _ => []) 0 ⟨by omega,rfl⟩ ?_ ?_
 ·exact Sub_au
 ·rintro k ⟨hk,hr⟩
  (repeat ((first | refine Va ?_ | refine Vb ?_ | refine Vc ?_ | refine Vd ?_ | refine Ve ?_ | refine Vf ?_); (try simp only [go_sem,hP,ints,List.length_map]); (repeat refine qJ ?_)))
  (refine WV_cond rfl (fun h => ?_) (fun h => ?_))
  ·have hi:k < b.fo.length:=by simpa using h
   have hi2:k < b.ma.length:=by omega
   have gf:=ints_get hi
   have gm:=ints_get hi2
   have w1:=w64 (n:=(k:Int) + 1) (by omega) (by omega)
   have hs:marK b (k + 1) = within (b.ma.getD k 0) 0 (b.fo.getD k 0):=by simp only [marK,hr,Bool.true_and]
   generalize b.fo.getD k 0 = x at *
   generalize b.ma.getD k 0 = y at *
   (repeat ((first | refine Va ?_ | refine Vb ?_ | refine Vc ?_ | refine Vd ?_ | refine Ve ?_ | refine Vf ?_); (try simp only [go_sem,hP,gf,gm,ints,List.length_map,Int.toNat_natCast,Int.ofNat_lt,hi,hi2,Int.natCast_nonneg]); (repeat refine qJ ?_)))
   (refine AS_pu (within22 y 0 x) ?_; simp only [go_sem,hP,ints]; (repeat refine qJ ?_); (repeat ((first | refine Va ?_ | refine Vb ?_ | refine Vc ?_ | refine Vd ?_ | refine Ve ?_ | refine Vf ?_); (try simp only [go_sem,hP,ints]); (repeat refine qJ ?_))))
   by_cases hx:within y 0 x = true
   ·(refine WV_cond rfl (fun h => ?_) (fun h => ?_))
    ·simp [hx] at h
    (repeat ((first | refine Va ?_ | refine Vb ?_ | refine Vc ?_ | refine Vd ?_ | refine Ve ?_ | refine Vf ?_); (try simp only [go_sem,hP,w1]); (repeat refine qJ ?_)))
    refine ⟨k + 1,⟨by omega,by rw [hs]; exact hx⟩,by omega,?_⟩
    (refine Sub_of (by simp only [go_sem]; ((repeat' (first | exact EnvLe_e0 _ _ | refine EnvLe_upd ?_ ?_)) <;> ((try simp only [upd_app,e0_app,o0_app,Nat.reduceEqDiff,reduceIte]); first | exact AWk.refl _ _ | exact AWk.int (by omega) | exact AWk.int (by rw [w64 (by omega) (by omega)]; omega) | exact AWk.grow rfl | exact AWk.nil _ | exact AWk.of (by simp [ints])))) (by simp only [go_sem]; exact ObjLe_au))
   ·have hx:within y 0 x = false:=by simpa using hx
    rw [hmb (marK_false (k:=k + 1) (by rw [hs]; exact hx) (by omega))]
    (refine WV_cond rfl (fun h => ?_) (fun h => ?_))
    ·(repeat ((first | refine Va ?_ | refine Vb ?_ | refine Vc ?_ | refine Vd ?_ | refine Ve ?_ | refine Vf ?_); (try simp only [go_sem,hP]); (repeat refine qJ ?_)))
     (refine WV_ret ?_; simp only [thenQ,inQ,RetQ,RetOk,resAll,resA]; simp only [go_sem,tupA,AV.port,AV.portL,exists_eq_left']; (first | exact AVle.of rfl | refine AVle.of ?_ | skip))
    ·simp [hx] at h
  ·have hi:k = b.fo.length:=by simp at h; omega
   subst hi
   have hfo:∀ n ∈ b.fo,0 ≤ n ∧ n ≤ 12:=by
    simp only [purB,Bool.and_eq_true] at h2
    exact (lstB_ok h2.1).2
   have hslo:b.sl.length = b.wh.co.length ∧ ∀ n ∈ b.sl,0 ≤ n ∧ n ≤ 12:=by
    simp only [purB,Bool.and_eq_true] at h3
    exact lstB_ok h3.1
   clear h hk
   by_cases h9:purB b.wh (putL b) = true
   ·have e1:chkB b = 0:=by rw [hrest hr,if_pos h9]
    rw [e1]
    (repeat ((first | refine Va ?_ | refine Vb ?_ | refine Vc ?_ | refine Vd ?_ | refine Ve ?_ | refine Vf ?_); (try simp only [go_sem,hP,ints,List.length_map]); (repeat refine qJ ?_)))
    (refine ACall_of (both23 (by omega) (by omega) hfo hslo.2) rfl rfl rfl rfl rfl ?_; simp only [go_sem,hP,ints]; (repeat refine qJ ?_); (repeat ((first | refine Va ?_ | refine Vb ?_ | refine Vc ?_ | refine Vd ?_ | refine Ve ?_ | refine Vf ?_); (try simp only [go_sem,hP,ints]); (repeat refine qJ ?_))))
    (refine AS_pu (purse21 hw (putL b)) ?_; simp only [go_sem,hP,Wh.av,Wh.avs,ints,putL]; (repeat refine qJ ?_); (repeat ((first | refine Va ?_ | refine Vb ?_ | refine Vc ?_ | refine Vd ?_ | refine Ve ?_ | refine Vf ?_); (try simp only [go_sem,hP,Wh.av,Wh.avs,ints,putL]); (repeat refine qJ ?_))))
    simp only [putL] at h9
    (refine WV_cond rfl (fun h => ?_) (fun h => ?_))
    ·simp [h9] at h
    ·(repeat ((first | refine Va ?_ | refine Vb ?_ | refine Vc ?_ | refine Vd ?_ | refine Ve ?_ | refine Vf ?_); (try simp only [go_sem,hP]); (repeat refine qJ ?_)))
     (refine WV_ret ?_; simp only [thenQ,inQ,RetQ,RetOk,resAll,resA]; simp only [go_sem,tupA,AV.port,AV.portL,exists_eq_left']; (first | exact AVle.of rfl | refine AVle.of ?_ | skip))
   ·have e1:chkB b = 50:=by rw [hrest hr,if_neg h9]
    have h9:purB b.wh (putL b) = false:=by simpa using h9
    rw [e1]
    (repeat ((first | refine Va ?_ | refine Vb ?_ | refine Vc ?_ | refine Vd ?_ | refine Ve ?_ | refine Vf ?_); (try simp only [go_sem,hP,ints,List.length_map]); (repeat refine qJ ?_)))
    (refine ACall_of (both23 (by omega) (by omega) hfo hslo.2) rfl rfl rfl rfl rfl ?_; simp only [go_sem,hP,ints]; (repeat refine qJ ?_); (repeat ((first | refine Va ?_ | refine Vb ?_ | refine Vc ?_ | refine Vd ?_ | refine Ve ?_ | refine Vf ?_); (try simp only [go_sem,hP,ints]); (repeat refine qJ ?_))))
    (refine AS_pu (purse21 hw (putL b)) ?_; simp only [go_sem,hP,Wh.av,Wh.avs,ints,putL]; (repeat refine qJ ?_); (repeat ((first | refine Va ?_ | refine Vb ?_ | refine Vc ?_ | refine Vd ?_ | refine Ve ?_ | refine Vf ?_); (try simp only [go_sem,hP,Wh.av,Wh.avs,ints,putL]); (repeat refine qJ ?_))))
    simp only [putL] at h9
    (refine WV_cond rfl (fun h => ?_) (fun h => ?_))
    ·(repeat ((first | refine Va ?_ | refine Vb ?_ | refine Vc ?_ | refine Vd ?_ | refine Ve ?_ | refine Vf ?_); (try simp only [go_sem,hP]); (repeat refine qJ ?_)))
     (refine WV_ret ?_; simp only [thenQ,inQ,RetQ,RetOk,resAll,resA]; simp only [go_sem,tupA,AV.port,AV.portL,exists_eq_left']; (first | exact AVle.of rfl | refine AVle.of ?_ | skip))
    ·simp [h9] at h
def farBx (b:Bx):Bool:=decide ((40:Int) < max (max (max (max (b.wh.no.length:Int) b.wh.co.length) b.fo.length) b.ma.length) b.sl.length) || (refOk b && (decide (3 < (putL b).sum) || decide ((3:Int) < b.fo.length)))
theorem far7 (b:Bx):FSpec Try.prog 7 [b.av] (.c (.bool (farBx b))):=by
 refine FSpec_of c7 (Nat.le_refl _) (by decide) fun C hP hN hC hL => ?_; rw [init_st]
 simp only [ir7,Bx.av,Bx.avs]
 (repeat ((first | refine Va ?_ | refine Vb ?_ | refine Vc ?_ | refine Vd ?_ | refine Ve ?_ | refine Vf ?_); (try simp only [go_sem,hP,Bx.avs,ints,List.length_map,mmGo]); (repeat refine qJ ?_)))
 generalize hM:max (max (max (max (b.wh.no.length:Int) b.wh.co.length) b.fo.length) b.ma.length) b.sl.length = M
 have hf:farBx b = (decide (40 < M) || (refOk b && (decide (3 < (putL b).sum) || decide ((3:Int) < b.fo.length)))):=by unfold farBx; rw [hM]
 by_cases h1:40 < M
 ·rw [hf,decide_eq_true h1,Bool.true_or]
  (refine WV_cond rfl (fun h => ?_) (fun h => ?_))
  ·(repeat ((first | refine Va ?_ | refine Vb ?_ | refine Vc ?_ | refine Vd ?_ | refine Ve ?_ | refine Vf ?_); (try simp only [go_sem,hP]); (repeat refine qJ ?_)))
   (refine WV_ret ?_; simp only [thenQ,inQ,RetQ,RetOk,resAll,resA]; simp only [go_sem,tupA,AV.port,AV.portL,exists_eq_left']; (first | exact AVle.of rfl | refine AVle.of ?_ | skip))
  ·simp [h1] at h
 rw [hf,decide_eq_false h1,Bool.false_or]
 (refine WV_cond rfl (fun h => ?_) (fun h => ?_))
 ·simp [h1] at h
 (repeat ((first | refine Va ?_ | refine Vb ?_ | refine Vc ?_ | refine Vd ?_ | refine Ve ?_ | refine Vf ?_); (try simp only [go_sem,hP,ints]); (repeat refine qJ ?_)))
 (refine AS_pu (check8 b) ?_; simp only [go_sem,hP,Bx.av,Bx.avs,ints,List.length_map]; (repeat refine qJ ?_); (repeat ((first | refine Va ?_ | refine Vb ?_ | refine Vc ?_ | refine Vd ?_ | refine Ve ?_ | refine Vf ?_); (try simp only [go_sem,hP,Bx.av,Bx.avs,ints,List.length_map]); (repeat refine qJ ?_))))
 have hz:((50:Int) == 0) = false:=rfl
 have hz0:((0:Int) == 0) = true:=rfl
 by_cases h2:refOk b = true
 ·have e1:chkB b = 0:=by unfold chkB; rw [if_pos h2]
  have hb:=bxB_ok (ref_bx h2)
  have hcl:=hb.wh.cl
  have hfl:=hb.fl
  have hsl:=hb.sl
  have hpl:(putL b).length ≤ 100:=by simp [putL,addL]; omega
  have hpn:∀ n ∈ putL b,0 ≤ n ∧ n ≤ 100:=fun n hn => by
   obtain ⟨i,hi,rfl⟩:=List.mem_iff_getElem.1 hn
   have hil:i < b.fo.length ∧ i < b.sl.length:=by simp [putL,addL] at hi; omega
   have e3:=getD_in hb.fo hil.1
   have e4:=getD_in hb.sn hil.2
   rw [getD_at hil.1] at e3
   rw [getD_at hil.2] at e4
   simp only [putL,addL,List.getElem_zipWith]; omega
  rw [e1,h2,Bool.true_and]
  simp only [go_sem,hz0]
  (refine AG_pu (fun hG => put19 (hfl.trans hsl.symm) (by omega) hb.fo hb.sn) ?_; simp only [go_sem,hP,Bx.av,Bx.avs,ints,hz0,List.length_map]; (repeat refine qJ ?_); (repeat ((first | refine Va ?_ | refine Vb ?_ | refine Vc ?_ | refine Vd ?_ | refine Ve ?_ | refine Vf ?_); (try simp only [go_sem,hP,Bx.av,Bx.avs,ints,hz0,List.length_map]); (repeat refine qJ ?_))))
  (refine AG_pu (fun hG => total18 hpl hpn) ?_; simp only [go_sem,hP,ints,hz0,List.length_map]; (repeat refine qJ ?_); (repeat ((first | refine Va ?_ | refine Vb ?_ | refine Vc ?_ | refine Vd ?_ | refine Ve ?_ | refine Vf ?_); (try simp only [go_sem,hP,ints,hz0,List.length_map]); (repeat refine qJ ?_))))
  by_cases h3:3 < (putL b).sum
  ·rw [decide_eq_true h3,Bool.true_or]
   (refine WV_ret ?_; simp only [thenQ,inQ,RetQ,RetOk,resAll,resA]; simp only [go_sem,tupA,AV.port,AV.portL,exists_eq_left']; (first | exact AVle.of rfl | refine AVle.of ?_ | skip))
  ·rw [decide_eq_false h3,Bool.false_or]
   (refine WV_ret ?_; simp only [thenQ,inQ,RetQ,RetOk,resAll,resA]; simp only [go_sem,tupA,AV.port,AV.portL,exists_eq_left']; (first | exact AVle.of rfl | refine AVle.of ?_ | skip))
 ·have h2:refOk b = false:=by simpa using h2
  have e1:chkB b = 50:=by unfold chkB; rw [h2]; rfl
  rw [e1,h2,Bool.false_and]
  simp only [go_sem,hz]
  refine .inl (ACallG_skip (.c (ints [])) rfl ?_)
  simp only [go_sem,hP,hz]
  (repeat ((first | refine Va ?_ | refine Vb ?_ | refine Vc ?_ | refine Vd ?_ | refine Ve ?_ | refine Vf ?_); (try simp only [go_sem,hP,hz,List.length_map]); (repeat refine qJ ?_)))
  refine .inl (ACallG_skip (iv 0) rfl ?_)
  simp only [go_sem,hP,hz]
  (repeat ((first | refine Va ?_ | refine Vb ?_ | refine Vc ?_ | refine Vd ?_ | refine Ve ?_ | refine Vf ?_); (try simp only [go_sem,hP,hz,List.length_map]); (repeat refine qJ ?_)))
  (refine WV_ret ?_; simp only [thenQ,inQ,RetQ,RetOk,resAll,resA]; simp only [go_sem,tupA,AV.port,AV.portL,exists_eq_left']; (first | exact AVle.of rfl | refine AVle.of ?_ | skip))
end Go.Proofs.Ytakplakbbidihaa

namespace Go.Proofs.Ytakplakbbidihaa
open Go Go.V
abbrev o41_0:List Ins:=[⟨some 6,.mv (.k (.c (.bool false))),none,true⟩]
abbrev o41_1:List Ins:=[⟨some 7,.mv (.t 0),none,true⟩,
 ⟨some 8,.mv (.t 1),none,true⟩,
 ⟨some 9,.bin .geq (.t 7) (.t 8),none,true⟩,
 ⟨some 10,.mv (.t 9),none,true⟩,
 ⟨some 11,.mv (.t 0),(some (10,true)),true⟩,
 ⟨some 12,.mv (.t 2),(some (10,true)),true⟩,
 ⟨some 13,.bin .leq (.t 11) (.t 12),(some (10,true)),true⟩,
 ⟨some 14,.pick (.t 10) (.t 13) (.k (.c (.bool false))),none,true⟩,
 ⟨some 6,.mv (.t 14),none,true⟩]
abbrev v41_2:VC:=(.seq (.ops o41_1) .ret)
def ir41:FC:=⟨3,15,[.t 6],(.seq (.ops o41_0) v41_2)⟩
abbrev o30_0:List Ins:=[⟨some 1,.box 3 (.t 0),none,true⟩,
 ⟨some 2,.mv (.k (.c (.int .i64 0))),none,true⟩]
abbrev o30_1:List Ins:=[⟨some 10,.fa 0 (.t 1),none,true⟩,
 ⟨some 11,.ld true 1 (.t 10),none,true⟩,
 ⟨some 12,.len (.t 11),none,true⟩,
 ⟨some 13,.bin .leq (.t 12) (.k (.c (.int .i64 7))),none,true⟩,
 ⟨some 14,.mv (.t 13),none,true⟩,
 ⟨some 15,.fa 1 (.t 1),(some (14,true)),true⟩,
 ⟨some 16,.ld true 1 (.t 15),(some (14,true)),true⟩,
 ⟨some 17,.len (.t 16),(some (14,true)),true⟩,
 ⟨some 18,.fa 0 (.t 1),(some (14,true)),true⟩,
 ⟨some 19,.ld true 1 (.t 18),(some (14,true)),true⟩,
 ⟨some 20,.len (.t 19),(some (14,true)),true⟩,
 ⟨some 21,.bin .add (.t 20) (.k (.c (.int .i64 1))),(some (14,true)),true⟩,
 ⟨some 22,.bin .eql (.t 17) (.t 21),(some (14,true)),true⟩,
 ⟨some 23,.pick (.t 14) (.t 22) (.k (.c (.bool false))),none,true⟩,
 ⟨some 24,.mv (.t 23),none,true⟩,
 ⟨some 25,.fa 2 (.t 1),(some (24,true)),true⟩,
 ⟨some 26,.ld true 1 (.t 25),(some (24,true)),true⟩,
 ⟨some 27,.call (.k (.fn 41 [])) [(.t 26),(.k (.c (.int .i64 0))),(.k (.c (.int .i64 1440)))],(some (24,true)),true⟩,
 ⟨some 28,.pick (.t 24) (.t 27) (.k (.c (.bool false))),none,true⟩,
 ⟨some 3,.mv (.t 28),none,true⟩]
abbrev o30_2:List Ins:=[⟨some 29,.fa 0 (.t 1),none,true⟩,
 ⟨some 30,.ld true 1 (.t 29),none,true⟩,
 ⟨some 31,.len (.t 30),none,true⟩,
 ⟨some 32,.mv (.k (.c (.int .i64 0))),none,true⟩]
abbrev o30_3:List Ins:=[⟨some 33,.bin .lss (.t 32) (.t 31),none,true⟩]
abbrev o30_4:List Ins:=[⟨some 34,.ia 4 (.t 30) (.t 32),none,true⟩,
 ⟨some 35,.ld false 4 (.t 34),none,true⟩,
 ⟨some 5,.alloc [(.c (.int .i64 0)),(.c (.int .i64 0)),(.c (.int .i64 0)),(.c (.int .i64 0))],none,true⟩,
 ⟨none,.st 4 (.t 5) (.t 35),none,true⟩]
abbrev o30_5:List Ins:=[⟨some 36,.mv (.t 3),none,true⟩,
 ⟨some 37,.mv (.t 36),none,true⟩,
 ⟨some 38,.fa 0 (.t 5),(some (37,true)),true⟩,
 ⟨some 39,.ld true 1 (.t 38),(some (37,true)),true⟩,
 ⟨some 40,.bin .geq (.t 39) (.k (.c (.int .i64 0))),(some (37,true)),true⟩,
 ⟨some 41,.pick (.t 37) (.t 40) (.k (.c (.bool false))),none,true⟩,
 ⟨some 42,.mv (.t 41),none,true⟩,
 ⟨some 43,.fa 0 (.t 5),(some (42,true)),true⟩,
 ⟨some 44,.ld true 1 (.t 43),(some (42,true)),true⟩,
 ⟨some 45,.fa 1 (.t 5),(some (42,true)),true⟩,
 ⟨some 46,.ld true 1 (.t 45),(some (42,true)),true⟩,
 ⟨some 47,.bin .leq (.t 44) (.t 46),(some (42,true)),true⟩,
 ⟨some 48,.pick (.t 42) (.t 47) (.k (.c (.bool false))),none,true⟩,
 ⟨some 49,.mv (.t 48),none,true⟩,
 ⟨some 50,.fa 1 (.t 5),(some (49,true)),true⟩,
 ⟨some 51,.ld true 1 (.t 50),(some (49,true)),true⟩,
 ⟨some 52,.bin .leq (.t 51) (.k (.c (.int .i64 1440))),(some (49,true)),true⟩,
 ⟨some 53,.pick (.t 49) (.t 52) (.k (.c (.bool false))),none,true⟩,
 ⟨some 54,.mv (.t 53),none,true⟩,
 ⟨some 55,.fa 2 (.t 5),(some (54,true)),true⟩,
 ⟨some 56,.ld true 1 (.t 55),(some (54,true)),true⟩,
 ⟨some 57,.call (.k (.fn 41 [])) [(.t 56),(.k (.c (.int .i64 0))),(.k (.c (.int .i64 1440)))],(some (54,true)),true⟩,
 ⟨some 58,.pick (.t 54) (.t 57) (.k (.c (.bool false))),none,true⟩,
 ⟨some 59,.mv (.t 58),none,true⟩,
 ⟨some 60,.fa 3 (.t 5),(some (59,true)),true⟩,
 ⟨some 61,.ld true 1 (.t 60),(some (59,true)),true⟩,
 ⟨some 62,.call (.k (.fn 41 [])) [(.t 61),(.k (.c (.int .i64 0))),(.k (.c (.int .i64 99999)))],(some (59,true)),true⟩,
 ⟨some 63,.pick (.t 59) (.t 62) (.k (.c (.bool false))),none,true⟩,
 ⟨some 3,.mv (.t 63),none,true⟩]
abbrev v30_6:VC:=(.seq (.ops o30_4) (.ops o30_5))
abbrev o30_7:List Ins:=[⟨some 64,.bin .add (.t 32) (.k (.c (.int .i64 1))),none,true⟩,
 ⟨some 32,.mv (.t 64),none,true⟩]
abbrev v30_8:VC:=(.seq (.block 1 v30_6) (.ops o30_7))
abbrev v30_9:VC:=(.seq (.cond (.t 33) .skip (.exit 0)) v30_8)
abbrev v30_10:VC:=(.seq (.ops o30_3) v30_9)
-- K30_1: changed and kept: [32,3]
abbrev K30_1:List Nat:=[1,30,31]
abbrev v30_11:VC:=(.loop v30_10)
abbrev v30_12:VC:=(.block 0 v30_11)
abbrev o30_13:List Ins:=[⟨some 65,.fa 1 (.t 1),none,true⟩,
 ⟨some 66,.ld true 1 (.t 65),none,true⟩,
 ⟨some 67,.len (.t 66),none,true⟩,
 ⟨some 68,.mv (.k (.c (.int .i64 0))),none,true⟩]
abbrev o30_14:List Ins:=[⟨some 69,.bin .lss (.t 68) (.t 67),none,true⟩]
abbrev o30_15:List Ins:=[⟨some 70,.mv (.t 68),none,true⟩,
 ⟨some 71,.ia 1 (.t 66) (.t 68),none,true⟩,
 ⟨some 72,.ld true 1 (.t 71),none,true⟩,
 ⟨some 6,.mv (.t 70),none,true⟩,
 ⟨some 7,.mv (.t 72),none,true⟩]
abbrev o30_16:List Ins:=[⟨some 73,.mv (.t 3),none,true⟩,
 ⟨some 74,.mv (.t 73),none,true⟩,
 ⟨some 75,.mv (.t 7),(some (74,true)),true⟩,
 ⟨some 76,.len (.t 75),(some (74,true)),true⟩,
 ⟨some 77,.fa 1 (.t 1),(some (74,true)),true⟩,
 ⟨some 78,.ld true 1 (.t 77),(some (74,true)),true⟩,
 ⟨some 79,.len (.t 78),(some (74,true)),true⟩,
 ⟨some 80,.bin .eql (.t 76) (.t 79),(some (74,true)),true⟩,
 ⟨some 81,.pick (.t 74) (.t 80) (.k (.c (.bool false))),none,true⟩,
 ⟨some 3,.mv (.t 81),none,true⟩]
abbrev o30_17:List Ins:=[⟨some 82,.mv (.t 7),none,true⟩,
 ⟨some 83,.len (.t 82),none,true⟩,
 ⟨some 84,.mv (.k (.c (.int .i64 0))),none,true⟩]
abbrev o30_18:List Ins:=[⟨some 85,.bin .lss (.t 84) (.t 83),none,true⟩]
abbrev o30_19:List Ins:=[⟨some 86,.mv (.t 84),none,true⟩,
 ⟨some 87,.ia 1 (.t 82) (.t 84),none,true⟩,
 ⟨some 88,.ld true 1 (.t 87),none,true⟩,
 ⟨some 8,.mv (.t 86),none,true⟩,
 ⟨some 9,.mv (.t 88),none,true⟩]
abbrev o30_20:List Ins:=[⟨some 89,.mv (.t 3),none,true⟩,
 ⟨some 90,.mv (.t 89),none,true⟩,
 ⟨some 91,.mv (.t 9),(some (90,true)),true⟩,
 ⟨some 92,.call (.k (.fn 41 [])) [(.t 91),(.k (.c (.int .i64 0))),(.k (.c (.int .i64 999)))],(some (90,true)),true⟩,
 ⟨some 93,.pick (.t 90) (.t 92) (.k (.c (.bool false))),none,true⟩,
 ⟨some 94,.mv (.t 93),none,true⟩,
 ⟨some 95,.mv (.t 6),(some (94,true)),true⟩,
 ⟨some 96,.mv (.t 8),(some (94,true)),true⟩,
 ⟨some 97,.bin .neq (.t 95) (.t 96),(some (94,true)),true⟩,
 ⟨some 98,.mv (.t 97),(some (94,true)),true⟩,
 ⟨some 99,.mv (.t 9),(some (98,false)),true⟩,
 ⟨some 100,.bin .eql (.t 99) (.k (.c (.int .i64 0))),(some (98,false)),true⟩,
 ⟨some 101,.pick (.t 98) (.k (.c (.bool true))) (.t 100),(some (94,true)),true⟩,
 ⟨some 102,.pick (.t 94) (.t 101) (.k (.c (.bool false))),none,true⟩,
 ⟨some 3,.mv (.t 102),none,true⟩]
abbrev v30_21:VC:=(.seq (.ops o30_19) (.ops o30_20))
abbrev o30_22:List Ins:=[⟨some 103,.bin .add (.t 84) (.k (.c (.int .i64 1))),none,true⟩,
 ⟨some 84,.mv (.t 103),none,true⟩]
abbrev v30_23:VC:=(.seq (.block 5 v30_21) (.ops o30_22))
abbrev v30_24:VC:=(.seq (.cond (.t 85) .skip (.exit 4)) v30_23)
abbrev v30_25:VC:=(.seq (.ops o30_18) v30_24)
-- K30_3: changed and kept: [84,3]
abbrev K30_3:List Nat:=[1,6,66,67,68,82,83]
abbrev v30_26:VC:=(.loop v30_25)
abbrev v30_27:VC:=(.block 4 v30_26)
abbrev v30_28:VC:=(.seq (.ops o30_17) v30_27)
abbrev v30_29:VC:=(.seq (.ops o30_16) v30_28)
abbrev v30_30:VC:=(.seq (.ops o30_15) v30_29)
abbrev o30_31:List Ins:=[⟨some 104,.bin .add (.t 68) (.k (.c (.int .i64 1))),none,true⟩,
 ⟨some 68,.mv (.t 104),none,true⟩]
abbrev v30_32:VC:=(.seq (.block 3 v30_30) (.ops o30_31))
abbrev v30_33:VC:=(.seq (.cond (.t 69) .skip (.exit 2)) v30_32)
abbrev v30_34:VC:=(.seq (.ops o30_14) v30_33)
-- K30_2: changed and kept: [68,3]
abbrev K30_2:List Nat:=[1,66,67]
abbrev v30_35:VC:=(.loop v30_34)
abbrev v30_36:VC:=(.block 2 v30_35)
abbrev o30_37:List Ins:=[⟨some 105,.mv (.t 3),none,true⟩,
 ⟨some 106,.un .not (.t 105),none,true⟩]
abbrev o30_38:List Ins:=[⟨some 2,.mv (.k (.c (.int .i64 80))),none,true⟩]
abbrev v30_39:VC:=(.seq (.ops o30_38) .ret)
abbrev v30_40:VC:=(.cond (.t 106) v30_39 .skip)
abbrev o30_41:List Ins:=[⟨some 2,.mv (.k (.c (.int .i64 0))),none,true⟩]
abbrev v30_42:VC:=(.seq (.ops o30_41) .ret)
abbrev v30_43:VC:=(.seq (.seq (.ops o30_37) v30_40) v30_42)
abbrev v30_44:VC:=(.seq (.seq (.ops o30_13) v30_36) v30_43)
abbrev v30_45:VC:=(.seq (.seq (.ops o30_2) v30_12) v30_44)
abbrev v30_46:VC:=(.seq (.ops o30_1) v30_45)
def ir30:FC:=⟨1,107,[.t 2],(.seq (.ops o30_0) v30_46)⟩
theorem c41:compM Try.prog [] 41 = some ir41:=by kernel_rfl
theorem c30:compM Try.prog [] 30 = some ir30:=by kernel_rfl
attribute [local go_sem] Nat.reduceEqDiff Nat.reduceAdd Nat.reduceMul reduceIte Nat.reduceLeDiff Nat.reduceLT Nat.reduceBEq reduceCtorEq
theorem wi57 (a b c:Int):FSpec Try.prog 41 [iv a,iv b,iv c] (.c (.bool (within a b c))):=by
 refine FSpec_of c41 (Nat.le_refl _) (by decide) fun C hP hN hC hL => ?_; rw [init_st]
 simp only [ir41]
 (refine WV_sop ?_; simp only [go_sem,hP]; (repeat refine qJ ?_))
 (refine WV_sop ?_; simp only [go_sem,hP]; (repeat refine qJ ?_))
 (refine WV_ret ?_; simp only [thenQ,inQ,RetQ,RetOk,resAll,resA]; simp only [go_sem,tupA,AV.port,AV.portL,exists_eq_left']; (first | exact AVle.of rfl | refine AVle.of ?_ | skip))
set_option maxHeartbeats 4000000 in
theorem rcheck_spec (r:Route):FSpec Try.prog 30 [r.av] (iv (if r.ok then 0 else 80)):=by
 refine FSpec_of c30 (Nat.le_refl _) (by decide) fun C hP hN hC hL => ?_; rw [init_st]
 obtain ⟨h1,h2,h3⟩:=Route.lens hL
 simp only [ir30,Route.av,stopsC,driveC]
 (refine WV_sop ?_; simp only [go_sem,hP]; (repeat refine qJ ?_))
 refine WV_sop ?_
 simp only [go_sem,hP]
 (refine AG_pu (fun hG => wi57 _ _ _) ?_; simp only [go_sem,hP]; (repeat refine qJ ?_))
 refine WV_seq_ (WV_seq_ (WV_ops ?_))
 simp only [go_sem,hP]
 refine WV_block ?_
 rw [g0_eq _ _ _ h1]
 generalize hg0:(decide (r.stops.length ≤ 7) && r.drive.length == r.stops.length + 1 && within r.start 0 1440) = g0
 refine WV_loopK K30_1 [] (fun k:Nat => k ≤ r.stops.length) (fun k => r.stops.length - k) (fun k => [(3,.c (.bool (g0 && (r.stops.take k).all okStop))),(32,iv k)]) (fun _ => []) 0 (Nat.zero_le _) ?_ ?_
 ·exact Sub_au
 ·intro k hk
  simp only [go_sem]
  (refine WV_sop ?_; simp only [go_sem,hP]; (repeat refine qJ ?_))
  refine WV_seq_ (WV_cond rfl (fun h => ?_) (fun h => ?_))
  ·simp only [decide_eq_true_eq,Int.ofNat_lt] at h
   refine WV_skip ?_
   simp only [thenQ_normal]
   refine WV_seq_ (WV_block ?_)
   (refine WV_sop ?_; simp only [go_sem,hP,Int.toNat_natCast,map_getD h,Int.ofNat_lt,h,Int.natCast_nonneg,Stop.cds]; (repeat refine qJ ?_))
   refine WV_op ?_
   simp only [go_sem,hP]
   (refine AG_pu (fun hG => wi57 _ _ _) ?_; simp only [go_sem,hP]; (repeat refine qJ ?_))
   (refine AG_pu (fun hG => wi57 _ _ _) ?_; simp only [go_sem,hP]; (repeat refine qJ ?_))
   (refine WV_op ?_; simp only [go_sem,hP]; (repeat refine qJ ?_))
   refine ⟨k + 1,by omega,by omega,?_⟩
   (refine Sub_of (by simp only [go_sem]; ((repeat' (first | exact EnvLe_e0 _ _ | refine EnvLe_upd ?_ ?_)) <;> ((try simp only [upd_app,e0_app,o0_app,Nat.reduceEqDiff,reduceIte]); first | exact AWk.refl _ _ | exact AWk.int (by omega) | exact AWk.int (by rw [w64 (by omega) (by omega)]; omega) | exact AWk.grow rfl | exact AWk.nil _ | exact AWk.of (by (rw [take_all okStop h]; simp [okStop,Bool.and_assoc]))))) (by simp only [go_sem]; exact ObjLe_au))
  ·simp only [decide_eq_false_iff_not,Int.ofNat_lt] at h
   refine WV_exit ?_
   simp only [thenQ,inQ]
   simp only [go_sem]
   have hk':k = r.stops.length:=by omega
   subst hk'
   rw [List.take_length]
   generalize hg1:(g0 && r.stops.all okStop) = g1
   refine WV_seq_ (WV_seq_ (WV_ops ?_))
   simp only [go_sem,hP]
   refine WV_block ?_
   refine WV_loopK K30_2 [] (fun k:Nat => k ≤ r.drive.length) (fun k => r.drive.length - k) (fun k => [(3,.c (.bool (g1 && (r.drive.zipIdx.take k).all fun p => okRow r.drive.length p.2 p.1))),(68,iv k)]) (fun _ => []) 0 (Nat.zero_le _) ?_ ?_
   ·exact Sub_au
   ·intro k hk
    simp only [go_sem]
    (refine WV_sop ?_; simp only [go_sem,hP]; (repeat refine qJ ?_))
    refine WV_seq_ (WV_cond rfl (fun h => ?_) (fun h => ?_))
    ·simp only [decide_eq_true_eq,Int.ofNat_lt] at h
     refine WV_skip ?_
     simp only [thenQ_normal]
     refine WV_seq_ (WV_block ?_)
     (refine WV_sop ?_; simp only [go_sem,hP,Int.toNat_natCast,map_getD h,Int.ofNat_lt,h,Int.natCast_nonneg]; (repeat refine qJ ?_))
     (refine WV_sop ?_; simp only [go_sem,hP,ints]; (repeat refine qJ ?_))
     refine WV_seq_ ?_
     (refine WV_op ?_; simp only [go_sem,hP,ints]; (repeat refine qJ ?_))
     refine WV_block ?_
     generalize hg2:(g1 && (r.drive.zipIdx.take k).all fun p => okRow r.drive.length p.2 p.1) = g2
     refine WV_loopK K30_3 [] (fun j:Nat => j ≤ r.drive[k].length) (fun j => r.drive[k].length - j) (fun j => [(3,.c (.bool (g2 && (r.drive[k].length == r.drive.length) && (r.drive[k].zipIdx.take j).all fun p => okCell k p.2 p.1))),(84,iv j)]) (fun _ => []) 0 (Nat.zero_le _) ?_ ?_
     ·(refine Sub_of (by simp only [go_sem]; ((repeat' (first | exact EnvLe_e0 _ _ | refine EnvLe_upd ?_ ?_)) <;> ((try simp only [upd_app,e0_app,o0_app,Nat.reduceEqDiff,reduceIte]); first | exact AWk.refl _ _ | exact AWk.int (by omega) | exact AWk.int (by rw [w64 (by omega) (by omega)]; omega) | exact AWk.grow rfl | exact AWk.nil _ | exact AWk.of (by (simp [ibeq]))))) (by simp only [go_sem]; exact ObjLe_au))
     ·intro j hj
      have h4:=h3 _ (List.getElem_mem h)
      simp only [go_sem]
      (refine WV_sop ?_; simp only [go_sem,hP]; (repeat refine qJ ?_))
      refine WV_seq_ (WV_cond rfl (fun h' => ?_) (fun h' => ?_))
      ·simp only [decide_eq_true_eq,Int.ofNat_lt] at h'
       refine WV_skip ?_
       simp only [thenQ_normal]
       refine WV_seq_ (WV_block ?_)
       (refine WV_sop ?_; simp only [go_sem,hP,Int.toNat_natCast,map_getD h',Int.ofNat_lt,h',Int.natCast_nonneg]; (repeat refine qJ ?_))
       refine WV_op ?_
       simp only [go_sem,hP]
       (refine AG_pu (fun hG => wi57 _ _ _) ?_; simp only [go_sem,hP]; (repeat refine qJ ?_))
       (refine WV_op ?_; simp only [go_sem,hP]; (repeat refine qJ ?_))
       refine ⟨j + 1,by omega,by omega,?_⟩
       (refine Sub_of (by simp only [go_sem]; ((repeat' (first | exact EnvLe_e0 _ _ | refine EnvLe_upd ?_ ?_)) <;> ((try simp only [upd_app,e0_app,o0_app,Nat.reduceEqDiff,reduceIte]); first | exact AWk.refl _ _ | exact AWk.int (by omega) | exact AWk.int (by rw [w64 (by omega) (by omega)]; omega) | exact AWk.grow rfl | exact AWk.nil _ | exact AWk.of (by (rw [take_zipIdx _ h']; simp [okCell,ibne,Bool.and_assoc]))))) (by simp only [go_sem]; exact ObjLe_au))
      ·simp only [decide_eq_false_iff_not,Int.ofNat_lt] at h'
       refine WV_exit ?_
       simp only [go_sem]
       have hj':j = r.drive[k].length:=by omega
       subst hj'
       (refine WV_op ?_; simp only [go_sem,hP]; (repeat refine qJ ?_))
       refine ⟨k + 1,by omega,by omega,?_⟩
       rw [List.take_of_length_le (by simp)]
       (refine Sub_of (by simp only [go_sem]; ((repeat' (first | exact EnvLe_e0 _ _ | refine EnvLe_upd ?_ ?_)) <;> ((try simp only [upd_app,e0_app,o0_app,Nat.reduceEqDiff,reduceIte]); first | exact AWk.refl _ _ | exact AWk.int (by omega) | exact AWk.int (by rw [w64 (by omega) (by omega)]; omega) | exact AWk.grow rfl | exact AWk.nil _ | exact AWk.of (by (rw [take_zipIdx _ h,← hg2]; simp [okRow,Bool.and_assoc]))))) (by simp only [go_sem]; exact ObjLe_au))
    ·simp only [decide_eq_false_iff_not,Int.ofNat_lt] at h
     refine WV_exit ?_
     simp only [go_sem]
     have hk':k = r.drive.length:=by omega
     subst hk'
     rw [List.take_of_length_le (by simp)]
     have hok:(g1 && r.drive.zipIdx.all fun p => okRow r.drive.length p.2 p.1) = r.ok:=by rw [← hg1,← hg0]; rfl
     rw [hok]
     refine WV_seq_ (WV_seq_ (WV_ops ?_))
     simp only [go_sem,hP]
     refine WV_cond rfl (fun h => ?_) (fun h => ?_)
     ·(refine WV_sop ?_; simp only [go_sem,hP]; (repeat refine qJ ?_))
      (refine WV_ret ?_; simp only [thenQ,inQ,RetQ,RetOk,resAll,resA]; simp only [go_sem,tupA,AV.port,AV.portL,exists_eq_left']; (first | exact AVle.of rfl | refine AVle.of ?_ | skip))
      simp at h
      simp [h]
     ·refine WV_skip ?_
      simp only [go_sem]
      (refine WV_sop ?_; simp only [go_sem,hP]; (repeat refine qJ ?_))
      (refine WV_ret ?_; simp only [thenQ,inQ,RetQ,RetOk,resAll,resA]; simp only [go_sem,tupA,AV.port,AV.portL,exists_eq_left']; (first | exact AVle.of rfl | refine AVle.of ?_ | skip))
      simp at h
      simp [h]
end Go.Proofs.Ytakplakbbidihaa

namespace Go.Proofs.Ytakplakbbidihaa
open Go Go.V
abbrev o46_0:List Ins:=[⟨some 2,.alloc [(.c (.raw (.pointer none))),(.c (.int .i64 0)),(.c (.int .i64 0)),(.c (.int .i64 0))],none,true⟩]
abbrev o46_1:List Ins:=[⟨some 3,.mv (.t 0),none,false⟩,
 ⟨some 4,.mv (.t 0),none,false⟩,
 ⟨some 5,.nilc (.t 4),none,false⟩,
 ⟨some 6,.fa 0 (.t 5),none,false⟩,
 ⟨some 7,.ld true 1 (.t 6),none,false⟩,
 ⟨some 8,.len (.t 7),none,false⟩,
 ⟨some 9,.mv (.t 0),none,false⟩,
 ⟨some 10,.nilc (.t 9),none,false⟩,
 ⟨some 11,.fa 2 (.t 10),none,false⟩,
 ⟨some 12,.ld true 1 (.t 11),none,false⟩,
 ⟨some 13,.bld [(.c (.raw (.pointer none))),(.c (.int .i64 0)),(.c (.int .i64 0)),(.c (.int .i64 0))] [(0,1,(.t 3)),(1,1,(.t 8)),(2,1,(.t 12)),(3,1,(.k (.c (.int .i64 0))))],none,true⟩,
 ⟨none,.st 4 (.t 2) (.t 13),none,true⟩]
abbrev v46_2:VC:=(.seq (.dops o46_1) .ret)
def ir46:FC:=⟨1,14,[.cell 2 false 4],(.seq (.ops o46_0) v46_2)⟩
abbrev o55_0:List Ins:=[⟨some 2,.box 4 (.t 0),none,true⟩,
 ⟨some 4,.alloc [(.c (.raw (.pointer none))),(.c (.int .i64 0)),(.c (.int .i64 0)),(.c (.int .i64 0))],none,true⟩]
abbrev o55_1:List Ins:=[⟨some 6,.fa 0 (.t 2),none,false⟩,
 ⟨some 7,.ld true 1 (.t 6),none,false⟩,
 ⟨some 8,.nilc (.t 7),none,false⟩,
 ⟨some 9,.fa 1 (.t 8),none,false⟩,
 ⟨some 10,.ld true 1 (.t 9),none,false⟩,
 ⟨some 11,.fa 1 (.t 2),none,false⟩,
 ⟨some 12,.ld true 1 (.t 11),none,false⟩,
 ⟨some 13,.ia 1 (.t 10) (.t 12),none,false⟩,
 ⟨some 14,.ld true 1 (.t 13),none,false⟩,
 ⟨some 15,.mv (.t 1),none,false⟩,
 ⟨some 16,.ia 1 (.t 14) (.t 15),none,true⟩,
 ⟨some 17,.ld true 1 (.t 16),none,true⟩,
 ⟨some 5,.mv (.t 17),none,true⟩]
abbrev o55_2:List Ins:=[⟨some 18,.mv (.t 1),none,true⟩,
 ⟨some 19,.fa 2 (.t 2),none,true⟩,
 ⟨some 20,.ld true 1 (.t 19),none,true⟩,
 ⟨some 21,.mv (.t 5),none,true⟩,
 ⟨some 22,.bin .add (.t 20) (.t 21),none,true⟩,
 ⟨some 23,.fa 3 (.t 2),none,true⟩,
 ⟨some 24,.ld true 1 (.t 23),none,true⟩,
 ⟨some 25,.mv (.t 5),none,true⟩,
 ⟨some 26,.bin .add (.t 24) (.t 25),none,true⟩,
 ⟨some 27,.fa 1 (.t 2),none,true⟩,
 ⟨none,.st 1 (.t 27) (.t 18),none,true⟩,
 ⟨some 28,.fa 2 (.t 2),none,true⟩,
 ⟨none,.st 1 (.t 28) (.t 22),none,true⟩,
 ⟨some 29,.fa 3 (.t 2),none,true⟩,
 ⟨none,.st 1 (.t 29) (.t 26),none,true⟩]
abbrev o55_3:List Ins:=[⟨some 30,.ld false 4 (.t 2),none,true⟩,
 ⟨none,.st 4 (.t 4) (.t 30),none,true⟩]
abbrev v55_4:VC:=(.seq (.ops o55_3) .ret)
abbrev v55_5:VC:=(.seq (.ops o55_2) v55_4)
abbrev v55_6:VC:=(.seq (.dops o55_1) v55_5)
def ir55:FC:=⟨2,31,[.cell 4 false 4],(.seq (.ops o55_0) v55_6)⟩
abbrev o60_0:List Ins:=[⟨some 1,.box 4 (.t 0),none,true⟩,
 ⟨some 2,.alloc [(.c (.raw (.pointer none))),(.c (.int .i64 0)),(.c (.int .i64 0)),(.c (.int .i64 0))],none,true⟩]
abbrev o60_1:List Ins:=[⟨some 3,.ld false 4 (.t 1),none,false⟩,
 ⟨some 4,.fa 0 (.t 1),none,false⟩,
 ⟨some 5,.ld true 1 (.t 4),none,false⟩,
 ⟨some 6,.nilc (.t 5),none,false⟩,
 ⟨some 7,.fa 0 (.t 6),none,false⟩,
 ⟨some 8,.ld true 1 (.t 7),none,false⟩,
 ⟨some 9,.len (.t 8),none,false⟩,
 ⟨some 10,.call (.k (.fn 55 [])) [(.t 3),(.t 9)],none,true⟩,
 ⟨none,.st 4 (.t 2) (.t 10),none,true⟩]
abbrev v60_2:VC:=(.seq (.dops o60_1) .ret)
def ir60:FC:=⟨1,11,[.cell 2 false 4],(.seq (.ops o60_0) v60_2)⟩
abbrev o45_0:List Ins:=[⟨some 2,.box 4 (.t 0),none,true⟩,
 ⟨some 4,.alloc [(.c (.raw (.pointer none))),(.c (.int .i64 0)),(.c (.int .i64 0)),(.c (.int .i64 0))],none,true⟩,
 ⟨some 5,.mv (.k (.c (.int .i64 0))),none,true⟩,
 ⟨some 6,.mv (.k (.c (.bool false))),none,true⟩]
abbrev o45_1:List Ins:=[⟨some 8,.ld false 4 (.t 2),none,true⟩,
 ⟨some 9,.mv (.t 1),none,true⟩,
 ⟨some 10,.call (.k (.fn 55 [])) [(.t 8),(.t 9)],none,true⟩,
 ⟨none,.st 4 (.t 2) (.t 10),none,true⟩]
abbrev o45_2:List Ins:=[⟨some 11,.fa 0 (.t 2),none,true⟩,
 ⟨some 12,.ld true 1 (.t 11),none,true⟩,
 ⟨some 13,.nilc (.t 12),none,true⟩,
 ⟨some 14,.fa 0 (.t 13),none,true⟩,
 ⟨some 15,.ld true 1 (.t 14),none,true⟩,
 ⟨some 16,.mv (.t 1),none,true⟩,
 ⟨some 17,.ia 4 (.t 15) (.t 16),none,true⟩,
 ⟨some 18,.ld false 4 (.t 17),none,true⟩,
 ⟨some 7,.alloc [(.c (.int .i64 0)),(.c (.int .i64 0)),(.c (.int .i64 0)),(.c (.int .i64 0))],none,true⟩,
 ⟨none,.st 4 (.t 7) (.t 18),none,true⟩]
abbrev o45_3:List Ins:=[⟨some 19,.fa 2 (.t 2),none,true⟩,
 ⟨some 20,.ld true 1 (.t 19),none,true⟩,
 ⟨some 21,.fa 1 (.t 7),none,true⟩,
 ⟨some 22,.ld true 1 (.t 21),none,true⟩,
 ⟨some 23,.bin .gtr (.t 20) (.t 22),none,true⟩]
abbrev o45_4:List Ins:=[⟨some 24,.ld false 4 (.t 2),none,true⟩,
 ⟨none,.st 4 (.t 4) (.t 24),none,true⟩,
 ⟨some 5,.mv (.k (.c (.int .i64 0))),none,true⟩,
 ⟨some 6,.mv (.k (.c (.bool false))),none,true⟩]
abbrev v45_5:VC:=(.seq (.ops o45_4) .ret)
abbrev v45_6:VC:=(.cond (.t 23) v45_5 .skip)
abbrev o45_7:List Ins:=[⟨some 25,.fa 2 (.t 2),none,true⟩,
 ⟨some 26,.ld true 1 (.t 25),none,true⟩,
 ⟨some 27,.fa 0 (.t 7),none,true⟩,
 ⟨some 28,.ld true 1 (.t 27),none,true⟩,
 ⟨some 29,.mm true (.t 26) (.t 28),none,true⟩,
 ⟨some 5,.mv (.t 29),none,true⟩]
abbrev o45_8:List Ins:=[⟨some 30,.mv (.t 5),none,true⟩,
 ⟨some 31,.fa 2 (.t 7),none,true⟩,
 ⟨some 32,.ld true 1 (.t 31),none,true⟩,
 ⟨some 33,.bin .add (.t 30) (.t 32),none,true⟩,
 ⟨some 34,.fa 2 (.t 2),none,true⟩,
 ⟨none,.st 1 (.t 34) (.t 33),none,true⟩]
abbrev o45_9:List Ins:=[⟨some 35,.ld false 4 (.t 2),none,true⟩,
 ⟨some 36,.mv (.t 5),none,true⟩,
 ⟨none,.st 4 (.t 4) (.t 35),none,true⟩,
 ⟨some 5,.mv (.t 36),none,true⟩,
 ⟨some 6,.mv (.k (.c (.bool true))),none,true⟩]
abbrev v45_10:VC:=(.seq (.ops o45_9) .ret)
abbrev v45_11:VC:=(.seq (.ops o45_8) v45_10)
abbrev v45_12:VC:=(.seq (.ops o45_7) v45_11)
abbrev v45_13:VC:=(.seq (.seq (.ops o45_3) v45_6) v45_12)
abbrev v45_14:VC:=(.seq (.ops o45_2) v45_13)
abbrev v45_15:VC:=(.seq (.ops o45_1) v45_14)
def ir45:FC:=⟨2,37,[.cell 4 false 4,.t 5,.t 6],(.seq (.ops o45_0) v45_15)⟩
theorem c46:compM Try.prog [] 46 = some ir46:=by kernel_rfl
theorem c55:compM Try.prog [] 55 = some ir55:=by kernel_rfl
theorem c60:compM Try.prog [] 60 = some ir60:=by kernel_rfl
theorem c45:compM Try.prog [] 45 = some ir45:=by kernel_rfl
attribute [local go_sem] Nat.reduceEqDiff Nat.reduceAdd Nat.reduceMul reduceIte Nat.reduceLeDiff Nat.reduceLT Nat.reduceBEq reduceCtorEq
theorem leave72 (r:Route):FSpec Try.prog 46 [.c (.pt r.cds)] (vanv r (leave r)):=by
 refine FSpec_of c46 (Nat.le_refl _) (by decide) fun C hP hN hC hL => ?_; rw [init_st]
 simp only [ir46,Route.cds,vanv,leave]
 (refine WV_sop ?_; simp only [go_sem,hP]; (repeat refine qJ ?_))
 (refine WV_sop ?_; simp only [go_sem,hP,stopsC]; (repeat refine qJ ?_))
 (refine WV_ret ?_; simp only [thenQ,inQ,RetQ,RetOk,resAll,resA]; simp only [go_sem,tupA,AV.port,AV.portL,exists_eq_left']; (first | exact AVle.of rfl | refine AVle.of ?_ | skip))
set_option maxHeartbeats 1000000 in
theorem drive77 {r:Route} (h:RouteOk r) {v:Van} {i to:Nat} (hv:VanOk r v i) (hi:i ≤ 100) (ht:to < r.n + 1):FSpec Try.prog 55 [vanv r v,iv to] (vanv r (drv r v to)):=by
 refine FSpec_of c55 (Nat.le_refl _) (by decide) fun C hP hN hC hL => ?_; rw [init_st]
 have h1:=hv.now
 have h2:=hv.long
 have hat:=hv.at_
 have hc:=h.cell v.at_ to hat ht
 have hd1:v.at_ < r.drive.length:=by rw [h.dl]; exact hat
 have hrow:=h.row v.at_ hat
 have e1:r.drive.getD v.at_ [] = r.drive[v.at_]:=by simp [hd1]
 rw [e1] at hrow
 have hd2:to < r.drive[v.at_].length:=by omega
 have e2:r.drive[v.at_][to] = r.d v.at_ to:=by simp [Route.d,hd1,hd2]
 simp only [ir55,vanv]
 (refine WV_sop ?_; simp only [go_sem,hP]; (repeat refine qJ ?_))
 (refine WV_sop ?_; simp only [go_sem,hP,Route.cds,driveC,ints,Int.toNat_natCast,map_getD hd1,map_getD hd2,e2,Int.ofNat_lt,hd1,hd2,Int.natCast_nonneg]; (repeat refine qJ ?_))
 (refine WV_sop ?_; simp only [go_sem,hP]; (repeat refine qJ ?_))
 rw [w64 (n:=v.now + r.d v.at_ to) (by omega) (by omega),w64 (by omega) (by omega)]
 (refine WV_sop ?_; simp only [go_sem,hP]; (repeat refine qJ ?_))
 (refine WV_ret ?_; simp only [thenQ,inQ,RetQ,RetOk,resAll,resA]; simp only [go_sem,tupA,AV.port,AV.portL,exists_eq_left']; (first | exact AVle.of rfl | refine AVle.of ?_ | skip))
set_option maxHeartbeats 1000000 in
theorem home68 {r:Route} (h:RouteOk r) {v:Van} {i:Nat} (hv:VanOk r v i) (hi:i ≤ 100):FSpec Try.prog 60 [vanv r v] (vanv r (drv r v r.n)):=by
 refine FSpec_of c60 (Nat.le_refl _) (by decide) fun C hP hN hC hL => ?_; rw [init_st]
 simp only [ir60,vanv]
 (refine WV_sop ?_; simp only [go_sem,hP]; (repeat refine qJ ?_))
 refine WV_sop ?_
 simp only [go_sem,hP,Route.cds,stopsC]
 refine AS_pure (drive77 h hv hi (to:=r.n) (by omega)) rfl rfl rfl rfl rfl ?_
 simp only [go_sem,hP,vanv]
 (refine WV_ret ?_; simp only [thenQ,inQ,RetQ,RetOk,resAll,resA]; simp only [go_sem,tupA,AV.port,AV.portL,exists_eq_left']; (first | exact AVle.of rfl | refine AVle.of ?_ | skip))
set_option maxHeartbeats 2000000 in
theorem visit73 {r:Route} (h:RouteOk r) {v:Van} {i k:Nat} (hv:VanOk r v i) (hi:i ≤ 100) (hk:k < r.n) :
  FSpec Try.prog 45 [vanv r v,iv k] (.tup [vanv r (visit r v k).1,iv (visit r v k).2.1,.c (.bool (visit r v k).2.2)]):=by
 refine FSpec_of c45 (Nat.le_refl _) (by decide) fun C hP hN hC hL => ?_; rw [init_st]
 have h1:=hv.now
 have h2:=hv.long
 have hc:=h.cell v.at_ k hv.at_ (by omega)
 have hs:=h.stop k hk
 have hd1:k < r.stops.length:=hk
 have e1:r.stops[k] = r.s k:=by simp [Route.s,hd1]
 simp only [ir45,vanv]
 (refine WV_sop ?_; simp only [go_sem,hP]; (repeat refine qJ ?_))
 refine WV_sop ?_
 simp only [go_sem,hP]
 refine AS_pure (drive77 h hv hi (to:=k) (by omega)) rfl rfl rfl rfl rfl ?_
 simp only [go_sem,hP,vanv]
 refine WV_sop ?_
 simp only [go_sem,hP,Route.cds,stopsC,Int.toNat_natCast,map_getD hd1,e1,Int.ofNat_lt,hd1,Int.natCast_nonneg,Stop.cds]
 refine WV_seq_ ?_
 (refine WV_sop ?_; simp only [go_sem,hP]; (repeat refine qJ ?_))
 (refine WV_cond rfl (fun h => ?_) (fun h => ?_))
 ·simp only [decide_eq_true_eq] at h
  have ev:visit r v k = (drv r v k,0,false):=by unfold visit; rw [if_pos h]
  rw [ev]
  (refine WV_sop ?_; simp only [go_sem,hP]; (repeat refine qJ ?_))
  (refine WV_ret ?_; simp only [thenQ,inQ,RetQ,RetOk,resAll,resA]; simp only [go_sem,tupA,AV.port,AV.portL,exists_eq_left']; (first | exact AVle.of rfl | refine AVle.of ?_ | skip))
 ·simp only [decide_eq_false_iff_not] at h
  have ev:visit r v k = ({ drv r v k with now:=max (drv r v k).now (r.s k).op + (r.s k).st },max (drv r v k).now (r.s k).op,true):=by unfold visit; rw [if_neg h]
  rw [ev]
  simp only [drv] at h ⊢
  (refine WV_skip ?_; simp only [go_sem])
  (refine WV_sop ?_; simp only [go_sem,hP]; (repeat refine qJ ?_))
  (refine WV_sop ?_; simp only [go_sem,hP]; (repeat refine qJ ?_))
  rw [w64 (by omega) (by omega)]
  (refine WV_sop ?_; simp only [go_sem,hP]; (repeat refine qJ ?_))
  (refine WV_ret ?_; simp only [thenQ,inQ,RetQ,RetOk,resAll,resA]; simp only [go_sem,tupA,AV.port,AV.portL,exists_eq_left']; (first | exact AVle.of rfl | refine AVle.of ?_ | skip))
end Go.Proofs.Ytakplakbbidihaa

namespace Go.Proofs.Ytakplakbbidihaa
open Go Go.V
abbrev o43_0:List Ins:=[⟨some 6,.box 4 (.t 1),none,true⟩,
 ⟨some 7,.mv (.k (.c (.bool false))),none,true⟩]
abbrev o43_1:List Ins:=[⟨some 12,.ld true 1 (.t 2),none,true⟩,
 ⟨some 13,.mv (.t 0),none,true⟩,
 ⟨some 14,.ld false 4 (.t 6),none,true⟩,
 ⟨some 15,.call (.t 12) [(.t 13),(.t 14)],none,true⟩,
 ⟨some 16,.un .not (.t 15),none,true⟩]
abbrev o43_2:List Ins:=[⟨some 7,.mv (.k (.c (.bool false))),none,true⟩]
abbrev v43_3:VC:=(.seq (.ops o43_2) .ret)
abbrev v43_4:VC:=(.cond (.t 16) v43_3 .skip)
abbrev o43_5:List Ins:=[⟨some 17,.ld true 1 (.t 3),none,true⟩,
 ⟨some 18,.nilc (.t 17),none,true⟩,
 ⟨some 19,.fa 0 (.t 18),none,true⟩,
 ⟨some 20,.ld true 1 (.t 19),none,true⟩,
 ⟨some 21,.len (.t 20),none,true⟩,
 ⟨some 22,.mv (.k (.c (.int .i64 0))),none,true⟩]
abbrev o43_6:List Ins:=[⟨some 23,.bin .lss (.t 22) (.t 21),none,true⟩]
abbrev o43_7:List Ins:=[⟨some 24,.mv (.t 22),none,true⟩,
 ⟨some 8,.mv (.t 24),none,true⟩]
abbrev o43_8:List Ins:=[⟨some 25,.mv (.t 0),none,true⟩,
 ⟨some 26,.mv (.t 8),none,true⟩,
 ⟨some 27,.call (.k (.fn 44 [])) [(.t 25),(.t 26)],none,true⟩]
abbrev v43_9:VC:=(.cond (.t 27) (.exit 1) .skip)
abbrev o43_10:List Ins:=[⟨some 29,.ld false 4 (.t 6),none,true⟩,
 ⟨some 30,.mv (.t 8),none,true⟩,
 ⟨some 31,.call (.k (.fn 45 [])) [(.t 29),(.t 30)],none,true⟩,
 ⟨some 28,.mv (.t 31),none,true⟩,
 ⟨some 32,.ext (.t 28) 0,none,true⟩,
 ⟨some 33,.ext (.t 28) 1,none,true⟩,
 ⟨some 34,.ext (.t 28) 2,none,true⟩,
 ⟨some 9,.alloc [(.c (.raw (.pointer none))),(.c (.int .i64 0)),(.c (.int .i64 0)),(.c (.int .i64 0))],none,true⟩,
 ⟨none,.st 4 (.t 9) (.t 32),none,true⟩,
 ⟨some 10,.mv (.t 33),none,true⟩,
 ⟨some 11,.mv (.t 34),none,true⟩]
abbrev t43_11:OT:=(.cons ⟨some 35,.mv (.t 11),none,true⟩
 (.cons ⟨some 36,.mv (.t 35),none,true⟩
 (.cons ⟨some 38,.mv (.t 0),(some (36,true)),false⟩
 (.cons ⟨some 39,.mv (.t 8),(some (36,true)),false⟩
 (.cons ⟨some 40,.bsl 3 1 [(.t 39)],(some (36,true)),false⟩
 (.br [(.cons ⟨some 37,.ld true 1 (.t 4),(some (36,true)),false⟩
  (.br [(.cons ⟨some 41,.app 3 1 8 (.t 38) (.t 40),(some (36,true)),true⟩
   (.cons ⟨some 42,.ld false 4 (.t 9),(some (36,true)),false⟩
   (.cons ⟨some 43,.call (.t 37) [(.t 41),(.t 42)],(some (36,true)),true⟩
   (.cons ⟨some 44,.un .not (.t 43),(some (36,true)),true⟩
   (.cons ⟨some 45,.pick (.t 36) (.t 44) (.k (.c (.bool false))),none,true⟩
   .nil))))),(.cons ⟨some 42,.ld false 4 (.t 9),(some (36,true)),false⟩
   (.cons ⟨some 41,.app 3 1 8 (.t 38) (.t 40),(some (36,true)),true⟩
   (.cons ⟨some 43,.call (.t 37) [(.t 41),(.t 42)],(some (36,true)),true⟩
   (.cons ⟨some 44,.un .not (.t 43),(some (36,true)),true⟩
   (.cons ⟨some 45,.pick (.t 36) (.t 44) (.k (.c (.bool false))),none,true⟩
   .nil)))))])),(.cons ⟨some 41,.app 3 1 8 (.t 38) (.t 40),(some (36,true)),true⟩
  (.cons ⟨some 37,.ld true 1 (.t 4),(some (36,true)),false⟩
  (.cons ⟨some 42,.ld false 4 (.t 9),(some (36,true)),false⟩
  (.cons ⟨some 43,.call (.t 37) [(.t 41),(.t 42)],(some (36,true)),true⟩
  (.cons ⟨some 44,.un .not (.t 43),(some (36,true)),true⟩
  (.cons ⟨some 45,.pick (.t 36) (.t 44) (.k (.c (.bool false))),none,true⟩
  .nil)))))),(.cons ⟨some 42,.ld false 4 (.t 9),(some (36,true)),false⟩
  (.br [(.cons ⟨some 37,.ld true 1 (.t 4),(some (36,true)),false⟩
   (.cons ⟨some 41,.app 3 1 8 (.t 38) (.t 40),(some (36,true)),true⟩
   (.cons ⟨some 43,.call (.t 37) [(.t 41),(.t 42)],(some (36,true)),true⟩
   (.cons ⟨some 44,.un .not (.t 43),(some (36,true)),true⟩
   (.cons ⟨some 45,.pick (.t 36) (.t 44) (.k (.c (.bool false))),none,true⟩
   .nil))))),(.cons ⟨some 41,.app 3 1 8 (.t 38) (.t 40),(some (36,true)),true⟩
   (.cons ⟨some 37,.ld true 1 (.t 4),(some (36,true)),false⟩
   (.cons ⟨some 43,.call (.t 37) [(.t 41),(.t 42)],(some (36,true)),true⟩
   (.cons ⟨some 44,.un .not (.t 43),(some (36,true)),true⟩
   (.cons ⟨some 45,.pick (.t 36) (.t 44) (.k (.c (.bool false))),none,true⟩
   .nil)))))]))]))))))
abbrev o43_12:List Ins:=[⟨some 7,.mv (.k (.c (.bool false))),none,true⟩]
abbrev v43_13:VC:=(.seq (.ops o43_12) .ret)
abbrev v43_14:VC:=(.cond (.t 45) v43_13 .skip)
abbrev v43_15:VC:=(.seq (.drw t43_11) v43_14)
abbrev v43_16:VC:=(.seq (.ops o43_10) v43_15)
abbrev v43_17:VC:=(.seq (.seq (.ops o43_8) v43_9) v43_16)
abbrev v43_18:VC:=(.seq (.ops o43_7) v43_17)
abbrev o43_19:List Ins:=[⟨some 46,.bin .add (.t 22) (.k (.c (.int .i64 1))),none,true⟩,
 ⟨some 22,.mv (.t 46),none,true⟩]
abbrev v43_20:VC:=(.seq (.block 1 v43_18) (.ops o43_19))
abbrev v43_21:VC:=(.seq (.cond (.t 23) .skip (.exit 0)) v43_20)
abbrev v43_22:VC:=(.seq (.ops o43_6) v43_21)
-- K43_1: changed and kept: [22]
abbrev K43_1:List Nat:=[0,4,6,21]
abbrev v43_23:VC:=(.loop v43_22)
abbrev v43_24:VC:=(.block 0 v43_23)
abbrev o43_25:List Ins:=[⟨some 7,.mv (.k (.c (.bool true))),none,true⟩]
abbrev v43_26:VC:=(.seq (.ops o43_25) .ret)
abbrev v43_27:VC:=(.seq (.seq (.ops o43_5) v43_24) v43_26)
abbrev v43_28:VC:=(.seq (.seq (.ops o43_1) v43_4) v43_27)
def ir43:FC:=⟨5,47,[.t 7],(.seq (.ops o43_0) v43_28)⟩
theorem c43:compM Try.prog [41] 43 = some ir43:=by kernel_rfl
attribute [local go_sem] Nat.reduceEqDiff Nat.reduceAdd Nat.reduceMul reduceIte Nat.reduceLeDiff Nat.reduceLT Nat.reduceBEq reduceCtorEq
def onB (r:Route) (g:Gst):Ob:=.box [.fn 43 [.c (.pt [.raw g.fv]),.c (.pt [.pt r.cds]),.bp 1002 0]]
def onArgs (r:Route) (g:Gst) (t:List Nat) (v:Van):List AV:=[.vw 1 1001 0 t.length r.n,vanv r v,.c (.pt [.raw g.fv]),.c (.pt [.pt r.cds]),.bp 1002 0]
def onPost (r:Route) (g:Gst) (t:List Nat) (rest:List Ent) (res:AV) (l':List Ob):Prop :=
 res = .c (.bool true) ∧ ∃ junk':List AV,junk'.length + t.length = r.n ∧ AV.pureL junk' = true ∧ AV.isSolidL junk' = true ∧ l' = [.guest g rest,.box (cellsT t ++ junk'),onB r g]
def nexts (r:Route) (f:Nat) (t:List Nat) (v:Van) (k:Nat):List (List Nat × Van):=if k ∈ t then [] else if (visit r v k).2.2 then ext r f (t ++ [k]) (visit r v k).1 else []
set_option maxHeartbeats 4000000 in
theorem on75 {r:Route} (hr:RouteOk r) (g:Gst):∀ (f:Nat) (t:List Nat) (v:Van) (junk:List AV) (rest:List Ent),t.length + f = r.n + 1 → t.Nodup → (∀ k ∈ t,k < r.n) → junk.length + t.length = r.n → AV.pureL junk = true → AV.isSolidL junk = true → VanOk r v t.length →
  FSpecL Try.prog 43 (onArgs r g t v) [.guest g ((ext r f t v).map (entT r) ++ rest),.box (cellsT t ++ junk),onB r g] [] (onPost r g t rest):=by
 intro f
 induction f with
 | zero =>
  intro t v junk rest hf hnd hlt
  have:=tour_len hnd hlt
  omega
 | succ f ih =>
  intro t v junk rest hf hnd hlt hj hjp hjs hv
  have hn7:=hr.n7
  have hvp:∀ k,k < r.n → (visit r v k).2.2 = true → VanOk r (visit r v k).1 (t.length + 1):=fun k hk h => visit_ok hr hv hk h
  have hprg:∀ (d:Nat) (j:List AV),AV.pureL j = true → AV.prgL d (cellsT t ++ j) = cellsT t ++ j:=fun d j h => prgL_pure d (pureL_append (cellsT_pure t) h)
  refine FSpecL_of c43 (by first | simp | exact Nat.le_of_ble_eq_true rfl) (Nat.le_refl _) (by decide) (by decide) fun C hP hN hC hL => ?_; rw [init_env',ownW_upd (by first | simp | exact Nat.le_of_ble_eq_true rfl)]; simp only [ir43,updL,updLo,List.map_nil,List.map_cons,Nat.reduceAdd,onArgs,vanv,onB]
  (repeat ((first | refine Va ?_ | refine Vb ?_ | refine Vc ?_ | refine Vd ?_ | refine Ve ?_ | refine Vf ?_); (try simp only [go_sem,hP,hprg _ _ hjp]); (repeat refine qJ ?_)))
  refine AS_guest 1000 [1001] (g:=g) (e:=entT r (t,v)) (rem:=((List.range r.n).flatMap (nexts r f t v)).map (entT r) ++ rest) rfl rfl rfl rfl (by decide) rfl ?_ ?_
  ·refine ⟨⟨⟨_,rfl,_,rfl⟩,cellsT_pure t⟩,trivial⟩
  ·simp only [go_sem,hP,entT,hprg _ _ hjp]
   (repeat ((first | refine Va ?_ | refine Vb ?_ | refine Vc ?_ | refine Vd ?_ | refine Ve ?_ | refine Vf ?_); (try simp only [go_sem,hP]); (repeat refine qJ ?_)))
   (refine WV_cond rfl (fun h => ?_) (fun h => ?_))
   ·simp at h
   ·(repeat ((first | refine Va ?_ | refine Vb ?_ | refine Vc ?_ | refine Vd ?_ | refine Ve ?_ | refine Vf ?_); (try simp only [go_sem,hP,Route.cds,stopsC]); (repeat refine qJ ?_)))
    refine WV_loopK K43_1 [1000,1001] (fun i:Nat × List AV => i.1 ≤ r.n ∧ i.2.length + t.length = r.n ∧ AV.pureL i.2 = true ∧ AV.isSolidL i.2 = true) (fun i => r.n - i.1) (fun i => [(22,iv i.1)])
     (fun i => [(1000,.guest g ((((List.range r.n).drop i.1).flatMap (nexts r f t v)).map (entT r) ++ rest)),(1001,.box (cellsT t ++ i.2))]) (0,junk) ⟨Nat.zero_le _,hj,hjp,hjs⟩ ?_ ?_
    ·exact Sub_au
    ·clear hj hjp hjs
     rintro ⟨k,junk⟩ ⟨hk,hj,hjp,hjs⟩
     have hsl:(r.stops.length:Int) = (r.n:Int):=rfl
     simp only at hk hj hjp hjs
     simp only [go_sem,hprg _ _ hjp]
     (repeat ((first | refine Va ?_ | refine Vb ?_ | refine Vc ?_ | refine Vd ?_ | refine Ve ?_ | refine Vf ?_); (try simp only [go_sem,hP,hprg _ _ hjp]); (repeat refine qJ ?_)))
     (refine WV_cond rfl (fun h => ?_) (fun h => ?_))
     ·simp only [decide_eq_true_eq,Int.ofNat_lt] at h
      have h:k < r.n:=h
      have hdrop:(List.range r.n).drop k = k :: (List.range r.n).drop (k + 1):=by
       rw [List.drop_eq_getElem_cons (by simpa using h),List.getElem_range]
      rw [hdrop,List.flatMap_cons]
      (repeat ((first | refine Va ?_ | refine Vb ?_ | refine Vc ?_ | refine Vd ?_ | refine Ve ?_ | refine Vf ?_); (try simp only [go_sem,hP]); (repeat refine qJ ?_)))
      refine AS_vol (contains76 (t.map fun (k:Nat) => (k:Int)) k) rfl rfl rfl rfl ?_ rfl ?_
      ·simp only [go_sem,AV.vportL,AV.vport]
       rw [elemsV_T (t:=t) (junk:=junk) rfl rfl]
       rfl
      ·rw [mem_cast]
       simp only [go_sem,hP]
       (repeat ((first | refine Va ?_ | refine Vb ?_ | refine Vc ?_ | refine Vd ?_ | refine Ve ?_ | refine Vf ?_); (try simp only [go_sem,hP]); (repeat refine qJ ?_)))
       (refine WV_cond rfl (fun h => ?_) (fun h => ?_))
       ·simp only [decide_eq_true_eq] at h
        have e:nexts r f t v k = []:=by unfold nexts; rw [if_pos h]
        rw [e]
        (repeat ((first | refine Va ?_ | refine Vb ?_ | refine Vc ?_ | refine Vd ?_ | refine Ve ?_ | refine Vf ?_); (try simp only [go_sem,hP]); (repeat refine qJ ?_)))
        refine ⟨(k + 1,junk),⟨by omega,hj,hjp,hjs⟩,by simp only; omega,?_⟩
        exact Sub_au
       ·simp only [decide_eq_false_iff_not] at h
        have hnk:=h
        have hkn:k < r.n:=by assumption
        have hnd':(t ++ [k]).Nodup:=by
         rw [List.nodup_append]
         exact ⟨hnd,by simp,fun a ha b hb => by simp at hb; subst hb; rintro rfl; exact hnk ha⟩
        have hlt':∀ j ∈ t ++ [k],j < r.n:=by
         intro j hj
         rcases List.mem_append.1 hj with hj | hj
         ·exact hlt j hj
         ·simp at hj; omega
        have hle:=tour_len hnd' hlt'
        simp only [List.length_append,List.length_cons,List.length_nil] at hle
        obtain ⟨ja,junk2,rfl⟩ : ∃ ja junk2,junk = ja :: junk2:=by
         cases junk with
         | nil => simp at hj; omega
         | cons a b => exact ⟨a,b,rfl⟩
        simp only [AV.pureL,Bool.and_eq_true] at hjp
        simp only [AV.isSolidL,Bool.and_eq_true] at hjs
        simp only [List.length_cons] at hj
        have hpjk:AV.pureL (ja :: junk2) = true:=by simp only [AV.pureL,Bool.and_eq_true]; exact hjp
        have hsjk:AV.isSolidL (ja :: junk2) = true:=by simp only [AV.isSolidL,Bool.and_eq_true]; exact hjs
        (repeat ((first | refine Va ?_ | refine Vb ?_ | refine Vc ?_ | refine Vd ?_ | refine Ve ?_ | refine Vf ?_); (try simp only [go_sem,hP]); (repeat refine qJ ?_)))
        (refine AS_pu (visit73 hr hv (by omega) hkn) ?_; simp only [go_sem,hP,vanv,hprg _ _ hpjk]; (repeat refine qJ ?_); (repeat ((first | refine Va ?_ | refine Vb ?_ | refine Vc ?_ | refine Vd ?_ | refine Ve ?_ | refine Vf ?_); (try simp only [go_sem,hP,vanv,hprg _ _ hpjk]); (repeat refine qJ ?_))))
        by_cases hvis:(visit r v k).2.2 = true
        ·have hnx:nexts r f t v k = ext r f (t ++ [k]) (visit r v k).1:=by unfold nexts; rw [if_neg hnk,if_pos hvis]
         rw [hvis,hnx]
         have hmax:maxLen = 9223372036854775807:=rfl
         have hset:=cellsT_set t ja junk2 k
         have hprg2:∀ d,AV.prgL d (cellsT (t ++ [k]) ++ junk2) = cellsT (t ++ [k]) ++ junk2:=fun d => prgL_pure d (pureL_append (cellsT_pure _) hjp.2)
         have hclen:=cellsT_len t
         have hv2:=hvp k hkn hvis
         have hspec:=ih (t ++ [k]) (visit r v k).1 junk2 (((List.range r.n).drop (k + 1)).flatMap (nexts r f t v) |>.map (entT r) |> (· ++ rest)) (by simp; omega) hnd' hlt' (by simp; omega) hjp.2 hjs.2 (by simpa using hv2)
         simp only at hspec
         have hll:=fun (own:Nat → Ob) => lendL_pure (b:=1000) (L:=[1000,1001,1002]) (own:=own) (pureL_append (cellsT_pure (t ++ [k])) hjp.2) (solidL_append (cellsT_solid (t ++ [k])) hjs.2)
         (refine WV_drw ?_; simp only [go_sem,hP,hprg _ _ hpjk,hprg2,List.flatten_cons,List.flatten_nil,Nat.mul_one,hset]; (repeat' (refine And.intro ?_ ?_)))
         all_goals first
         | omega
         | skip
         all_goals
          refine .inr (.inr (AS_lend [1000,1001,1002] hspec rfl rfl rfl (by decide) ?_ ?_ ?_))
          ·simp only [go_sem,AV.lendL,AV.lend,onArgs,vanv]
           rfl
          ·simp only [go_sem,obsLend,Ob.lend,AV.lendL,AV.lend,hll,onB,Route.cds,stopsC,List.append_assoc]
          ·rintro res l' ⟨rfl,junk',hj',hp',hs',rfl⟩
           have hbk:=backs_pure (L:=[1000,1001,1002]) (pureL_append (cellsT_pure (t ++ [k])) hp')
           refine ⟨.c (.bool true),[.guest g (List.map (entT r) (List.flatMap (nexts r f t v) (List.drop (k + 1) (List.range r.n))) ++ rest),.box (cellsT (t ++ [k]) ++ junk'),onB r g],rfl,?_,?_⟩
           ·simp only [obsBack,Ob.back,hbk,onB]
            rfl
           ·have hprg3:∀ d,AV.prgL d (cellsT t ++ (iv k :: junk')) = cellsT t ++ (iv k :: junk'):=fun d => prgL_pure d (pureL_append (cellsT_pure _) (by simp only [AV.pureL,AV.pureB,Bool.true_and]; exact hp'))
            have hcs:cellsT (t ++ [k]) ++ junk' = cellsT t ++ (iv k :: junk'):=by simp [cellsT]
            rw [hcs]
            simp only [go_sem,ownBack,hprg3,onB,Route.cds,stopsC]
            (repeat ((first | refine Va ?_ | refine Vb ?_ | refine Vc ?_ | refine Vd ?_ | refine Ve ?_ | refine Vf ?_); (try simp only [go_sem,hP]); (repeat refine qJ ?_)))
            (refine WV_cond rfl (fun h => ?_) (fun h => ?_))
            ·simp at h
            ·(repeat ((first | refine Va ?_ | refine Vb ?_ | refine Vc ?_ | refine Vd ?_ | refine Ve ?_ | refine Vf ?_); (try simp only [go_sem,hP]); (repeat refine qJ ?_)))
             refine ⟨(k + 1,iv k :: junk'),⟨by omega,by simp at hj' ⊢; omega,by simp only [AV.pureL,AV.pureB,Bool.true_and]; exact hp',by simp only [AV.isSolidL,AV.isSolid,Bool.true_and]; exact hs'⟩,by simp only; omega,?_⟩
             exact Sub_au
        ·have hvf:(visit r v k).2.2 = false:=by simpa using hvis
         have hnx:nexts r f t v k = []:=by unfold nexts; rw [if_neg hnk,if_neg hvis]
         rw [hvf,hnx]
         (refine WV_drw ?_; simp only [go_sem,hP,hprg _ _ hpjk]; (repeat' (refine And.intro ?_ ?_)))
         all_goals
          refine .inr (.inr ?_)
          (repeat ((first | refine Va ?_ | refine Vb ?_ | refine Vc ?_ | refine Vd ?_ | refine Ve ?_ | refine Vf ?_); (try simp only [go_sem,hP,hprg _ _ hpjk]); (repeat refine qJ ?_)))
          (refine WV_cond rfl (fun h => ?_) (fun h => ?_))
          ·simp at h
          ·(repeat ((first | refine Va ?_ | refine Vb ?_ | refine Vc ?_ | refine Vd ?_ | refine Ve ?_ | refine Vf ?_); (try simp only [go_sem,hP,hprg _ _ hpjk]); (repeat refine qJ ?_)))
           refine ⟨(k + 1,ja :: junk2),⟨by omega,by simp; omega,hpjk,hsjk⟩,by simp only; omega,?_⟩
           exact Sub_au
     ·simp only [decide_eq_false_iff_not,Int.ofNat_lt] at h
      have hk':k = r.n:=by have h:¬ k < r.n:=h; omega
      subst hk'
      rw [List.drop_of_length_le (by simp)]
      (repeat ((first | refine Va ?_ | refine Vb ?_ | refine Vc ?_ | refine Vd ?_ | refine Ve ?_ | refine Vf ?_); (try simp only [go_sem,hP]); (repeat refine qJ ?_)))
      (refine WV_ret ?_; simp only [thenQ,inQ,RetQL,RetOkL,resAll,resA]; simp only [go_sem,tupA,AV.keepP,AV.keepPL]; refine ⟨_,[.guest g rest,.box (cellsT t ++ junk),onB r g],rfl,KeepL_mk rfl rfl ?_ ?_ rfl,?_⟩)
      ·simp only [go_sem,keepAll,Ob.keepP,AV.keepP,AV.keepPL,keepPL_pure (pureL_append (cellsT_pure t) hjp) (solidL_append (cellsT_solid t) hjs),onB,List.flatMap_nil,Route.cds,stopsC]
      ·trivial
      ·exact ⟨rfl,junk,hj,hjp,hjs,rfl⟩
end Go.Proofs.Ytakplakbbidihaa

namespace Go.Proofs.Ytakplakbbidihaa
open Go Go.V
abbrev o31_0:List Ins:=[⟨some 1,.box 1 (.t 0),none,true⟩,
 ⟨some 2,.mv (.k (.c (.raw .nilFunc))),none,true⟩]
abbrev o31_1:List Ins:=[⟨some 3,.mkfn 42 [(.t 1)],none,true⟩,
 ⟨some 2,.mv (.t 3),none,true⟩]
abbrev v31_2:VC:=(.seq (.ops o31_1) .ret)
def ir31:FC:=⟨1,4,[.t 2],(.seq (.ops o31_0) v31_2)⟩
abbrev o42_0:List Ins:=[⟨some 2,.box 1 (.t 0),none,true⟩]
abbrev o42_1:List Ins:=[⟨some 3,.alloc [(.c (.raw .nilFunc))],none,true⟩]
abbrev o42_2:List Ins:=[⟨some 4,.mkfn 43 [(.t 2),(.t 1),(.t 3)],none,true⟩,
 ⟨none,.st 1 (.t 3) (.t 4),none,true⟩]
abbrev o42_3:List Ins:=[⟨some 5,.ld true 1 (.t 3),none,false⟩,
 ⟨some 6,.ld true 1 (.t 1),none,false⟩,
 ⟨some 7,.nilc (.t 6),none,false⟩,
 ⟨some 8,.fa 0 (.t 7),none,false⟩,
 ⟨some 9,.ld true 1 (.t 8),none,false⟩,
 ⟨some 10,.len (.t 9),none,false⟩,
 ⟨some 11,.mks 3 1 8 [(.c (.int .i64 0))] (.k (.c (.int .i64 0))) (.t 10),none,false⟩,
 ⟨some 12,.ld true 1 (.t 1),none,false⟩,
 ⟨some 13,.call (.k (.fn 46 [])) [(.t 12)],none,false⟩,
 ⟨some 14,.call (.t 5) [(.t 11),(.t 13)],none,true⟩]
abbrev v42_4:VC:=(.seq (.ops o42_2) (.dops o42_3))
abbrev v42_5:VC:=(.seq (.ops o42_1) v42_4)
def ir42:FC:=⟨2,15,[],(.seq (.ops o42_0) v42_5)⟩
theorem c31:compM Try.prog [] 31 = some ir31:=by kernel_rfl
theorem c42:compM Try.prog [] 42 = some ir42:=by kernel_rfl
attribute [local go_sem] Nat.reduceEqDiff Nat.reduceAdd Nat.reduceMul reduceIte Nat.reduceLeDiff Nat.reduceLT Nat.reduceBEq reduceCtorEq
theorem tours66 (r:Route):FSpec Try.prog 31 [.c (.pt r.cds)] (.fn 42 [.c (.pt [.pt r.cds])]):=by
 refine FSpec_of c31 (Nat.le_refl _) (by decide) fun C hP hN hC hL => ?_; rw [init_st]
 simp only [ir31]
 (refine WV_sop ?_; simp only [go_sem,hP]; (repeat refine qJ ?_))
 refine WV_freeze 1 (ds:=[.pt r.cds]) rfl rfl ?_
 simp only [go_sem,List.drop_zero]
 (repeat ((first | refine Va ?_ | refine Vb ?_ | refine Vc ?_ | refine Vd ?_ | refine Ve ?_ | refine Vf ?_); (try simp only [go_sem,hP]); (repeat refine qJ ?_)))
 (refine WV_ret ?_; simp only [thenQ,inQ,RetQ,RetOk,resAll,resA]; simp only [go_sem,tupA,AV.port,AV.portL,exists_eq_left']; (first | exact AVle.of rfl | refine AVle.of ?_ | skip))
set_option maxHeartbeats 2000000 in
theorem tours74 {r:Route} (hr:RouteOk r) (g:Gst):FSpecL Try.prog 42 [.c (.raw g.fv),.c (.pt [.pt r.cds])] [.guest g ((goods r).map (entT r))] [] (fun _ l' => l' = [.guest g []]):=by
 have hn7:=hr.n7
 refine FSpecL_of c42 (by first | simp | exact Nat.le_of_ble_eq_true rfl) (Nat.le_refl _) (by decide) (by decide) fun C hP hN hC hL => ?_; rw [init_env',ownW_upd (by first | simp | exact Nat.le_of_ble_eq_true rfl)]; simp only [ir42,updL,updLo,List.map_nil,List.map_cons,Nat.reduceAdd,]
 (refine WV_sop ?_; simp only [go_sem,hP]; (repeat refine qJ ?_))
 refine WV_freeze 2 (ds:=[.raw g.fv]) rfl rfl ?_
 simp only [go_sem,List.drop_zero]
 (repeat ((first | refine Va ?_ | refine Vb ?_ | refine Vc ?_ | refine Vd ?_ | refine Ve ?_ | refine Vf ?_); (try simp only [go_sem,hP]); (repeat refine qJ ?_)))
 have hst:(r.stops.length:Int) = (r.n:Int):=rfl
 have hmax:maxLen = 9223372036854775807:=rfl
 generalize hju:(List.replicate r.stops.length [iv 0]).flatten = junk
 have hju1:junk.length = r.n:=by rw [← hju]; simp [Route.n]
 have hju2:AV.pureL junk = true ∧ AV.isSolidL junk = true:=by
  rw [← hju]
  generalize r.stops.length = n
  induction n with
  | zero => exact ⟨rfl,rfl⟩
  | succ n ih => simp only [List.replicate_succ,List.flatten_cons,List.cons_append,List.nil_append,AV.pureL,AV.pureB,AV.isSolidL,AV.isSolid,Bool.true_and]; exact ih
 have hspec:=on75 hr g (r.n + 1) [] (leave r) junk [] (by simp) List.nodup_nil (by simp) (by simpa using hju1) hju2.1 hju2.2 (leave_ok hr)
 have hc0:cellsT [] ++ junk = junk:=rfl
 rw [hc0,List.append_nil] at hspec
 have hpj:∀ d,AV.prgL d junk = junk:=fun d => prgL_pure d hju2.1
 have hll:=fun (L:List Nat) (own:Nat → Ob) => lendL_pure (b:=1000) (L:=L) (own:=own) hju2.1 hju2.2
 simp only [go_sem,hP,Route.cds,stopsC,Int.toNat_natCast,hju,hpj]
 (repeat refine qJ ?_)
 (repeat ((first | refine Va ?_ | refine Vb ?_ | refine Vc ?_ | refine Vd ?_ | refine Ve ?_ | refine Vf ?_); (try simp only [go_sem,hP,Route.cds,stopsC,Int.toNat_natCast,hju,hpj]); (repeat refine qJ ?_)))
 ·refine ACall_of (leave72 r) rfl rfl rfl rfl rfl ?_
  simp only [go_sem,hP,vanv,Int.toNat_natCast,hju,hpj]
  refine AS_lend [1000,11,3] hspec rfl rfl rfl (by decide) ?_ ?_ ?_
  ·simp only [go_sem,AV.lendL,AV.lend,onArgs,vanv]
   rfl
  ·simp only [go_sem,obsLend,Ob.lend,AV.lendL,AV.lend,hll,onB,Route.cds,stopsC,goods]
  ·rintro res l' ⟨rfl,junk',hj',hp',hs',rfl⟩
   have hbk:=backs_pure (L:=[1000,11,3]) hp'
   have hc1:cellsT [] ++ junk' = junk':=rfl
   rw [hc1]
   refine ⟨.c (.bool true),[.guest g [],.box junk',.box [.fn 43 [.c (.pt [.raw g.fv]),.c (.pt [.pt r.cds]),.bp 3 0]]],rfl,?_,?_⟩
   ·simp only [obsBack,Ob.back,hbk,onB]
    rfl
   ·simp only [go_sem,ownBack]
    ((try simp only [thenQ,inQ,RetQL,RetOkL,resAll,resA]); (try simp only [go_sem,tupA,AV.keepP,AV.keepPL]); refine ⟨_,[.guest g []],rfl,KeepL_mk rfl rfl ?_ ?_ rfl,?_⟩)
    ·simp only [go_sem,keepAll,Ob.keepP]
    ·trivial
    ·rfl
end Go.Proofs.Ytakplakbbidihaa

namespace Go.Proofs.Ytakplakbbidihaa
open Go Go.V
abbrev o56_0:List Ins:=[⟨some 2,.box 1 (.t 0),none,true⟩,
 ⟨some 3,.box 1 (.t 1),none,true⟩,
 ⟨some 4,.mv (.k (.c (.int .i64 0))),none,true⟩]
abbrev o56_1:List Ins:=[⟨some 5,.alloc [(.c (.int .i64 0))],none,true⟩,
 ⟨none,.st 1 (.t 5) (.k (.c (.int .i64 0))),none,true⟩]
abbrev o56_2:List Ins:=[⟨some 8,.ld true 1 (.t 2),none,true⟩,
 ⟨some 9,.call (.k (.fn 31 [])) [(.t 8)],none,true⟩]
abbrev o56_3:List Ins:=[⟨some 12,.mv (.t 6),none,true⟩,
 ⟨some 13,.len (.t 12),none,true⟩,
 ⟨some 14,.ld true 1 (.t 2),none,true⟩,
 ⟨some 15,.nilc (.t 14),none,true⟩,
 ⟨some 16,.fa 0 (.t 15),none,true⟩,
 ⟨some 17,.ld true 1 (.t 16),none,true⟩,
 ⟨some 18,.len (.t 17),none,true⟩,
 ⟨some 19,.bin .lss (.t 13) (.t 18),none,true⟩]
abbrev v56_4:VC:=(.cond (.t 19) (.exit 1) .skip)
abbrev o56_5:List Ins:=[⟨some 20,.ld true 1 (.t 5),none,true⟩,
 ⟨some 21,.bin .add (.t 20) (.k (.c (.int .i64 1))),none,true⟩,
 ⟨none,.st 1 (.t 5) (.t 21),none,true⟩]
abbrev o56_6:List Ins:=[⟨some 22,.mv (.t 6),none,true⟩,
 ⟨some 23,.len (.t 22),none,true⟩,
 ⟨some 24,.bin .gtr (.t 23) (.k (.c (.int .i64 0))),none,true⟩]
abbrev o56_7:List Ins:=[⟨some 25,.ld false 4 (.t 7),none,true⟩,
 ⟨some 26,.call (.k (.fn 60 [])) [(.t 25)],none,true⟩,
 ⟨none,.st 4 (.t 7) (.t 26),none,true⟩]
abbrev v56_8:VC:=(.cond (.t 24) (.ops o56_7) .skip)
abbrev v56_9:VC:=(.seq (.ops o56_6) v56_8)
abbrev o56_10:List Ins:=[⟨some 27,.ld true 1 (.t 3),none,true⟩,
 ⟨some 28,.mv (.t 6),none,true⟩,
 ⟨some 29,.ld false 4 (.t 7),none,true⟩,
 ⟨some 30,.call (.t 27) [(.t 28),(.t 29)],none,true⟩]
abbrev v56_11:VC:=(.seq (.seq (.ops o56_5) v56_9) (.ops o56_10))
abbrev v56_12:VC:=(.seq (.seq (.ops o56_3) v56_4) v56_11)
abbrev v56_13:VC:=(.block 1 v56_12)
abbrev o56_14:List Ins:=[⟨some 6,.mv (.t 10),none,true⟩]
abbrev o56_15:List Ins:=[⟨some 7,.alloc [(.c (.raw (.pointer none))),(.c (.int .i64 0)),(.c (.int .i64 0)),(.c (.int .i64 0))],none,true⟩,
 ⟨none,.st 4 (.t 7) (.t 11),none,true⟩]
abbrev v56_16:VC:=(.seq (.ops o56_14) (.ops o56_15))
abbrev K56_1:List Nat:=[2,3,5,9]
abbrev v56_17:VC:=(.rng (.t 9) [10,11] v56_16 v56_13)
abbrev v56_18:VC:=(.block 0 v56_17)
abbrev o56_19:List Ins:=[⟨some 31,.ld true 1 (.t 5),none,true⟩,
 ⟨some 4,.mv (.t 31),none,true⟩]
abbrev v56_20:VC:=(.seq (.ops o56_19) .ret)
abbrev v56_21:VC:=(.seq (.seq (.ops o56_2) v56_18) v56_20)
abbrev v56_22:VC:=(.seq (.ops o56_1) v56_21)
def ir56:FC:=⟨2,32,[.t 4],(.seq (.ops o56_0) v56_22)⟩
theorem c56:compM Try.prog [] 56 = some ir56:=by kernel_rfl
attribute [local go_sem] Nat.reduceEqDiff Nat.reduceAdd Nat.reduceMul reduceIte Nat.reduceLeDiff Nat.reduceLT Nat.reduceBEq reduceCtorEq
def wholeF (r:Route) (g:Gst) (pre:List (List Nat × Van)):List Ob:=[.box [iv ((pre.filter (isW r)).length:Int)],.guest g ((((goods r).drop pre.length).filter (isW r)).map (entW r))]
set_option maxHeartbeats 2000000 in
theorem whole50 {r:Route} (hr:RouteOk r) (g:Gst):FSpecL Try.prog 56 [.c (.pt r.cds),.c (.raw g.fv)] [.guest g ((wholes r).map (entW r))] [] (fun res l' => res = iv ((wholes r).length:Int) ∧ l' = [.guest g []]):=by
 have hn7:=hr.n7
 have hst:(r.stops.length:Int) = (r.n:Int):=rfl
 have hcount:=goods_count hn7
 refine FSpecL_of c56 (by first | simp | exact Nat.le_of_ble_eq_true rfl) (Nat.le_refl _) (by decide) (by decide) fun C hP hN hC hL => ?_; rw [init_env',ownW_upd (by first | simp | exact Nat.le_of_ble_eq_true rfl)]; simp only [ir56,updL,updLo,List.map_nil,List.map_cons,Nat.reduceAdd,]
 (refine WV_sop ?_; simp only [go_sem,hP]; (repeat refine qJ ?_))
 refine WV_freeze 2 (ds:=[.pt r.cds]) rfl rfl ?_
 refine WV_freeze 3 (ds:=[.raw g.fv]) rfl rfl ?_
 simp only [go_sem,List.drop_zero]
 (repeat ((first | refine Va ?_ | refine Vb ?_ | refine Vc ?_ | refine Vd ?_ | refine Ve ?_ | refine Vf ?_); (try simp only [go_sem,hP]); (repeat refine qJ ?_)))
 (refine AS_pu (tours66 r) ?_; simp only [go_sem,hP]; (repeat refine qJ ?_); (repeat ((first | refine Va ?_ | refine Vb ?_ | refine Vc ?_ | refine Vd ?_ | refine Ve ?_ | refine Vf ?_); (try simp only [go_sem,hP]); (repeat refine qJ ?_))))
 refine WV_keep K56_1 ?_
 simp only [go_sem]
 refine WV_rng hC (L:=[5,1000]) (l:=wholeF r g []) (env':=lendF [5,1000] _ _) (rem:=(goods r).map (entT r)) (Fin:=fun pend lf => pend = none ∧ lf = wholeF r g (goods r)) rfl rfl rfl (by decide) (by decide) ?_ (by rw [hN]; decide) (lendF_ok _ _ _) (fun g' => ?_) ?_ ?_
 ·simp only [go_sem,obsLend,Ob.lend,AV.lendL,AV.lend,wholeF,wholes,List.filter_nil]
  rfl
 ·rw [hP]; exact ⟨_,tours74 hr g',fun _ _ h => h⟩
 ·refine RunR_pre (entT r) (wholeF r g) (goods r) (fun p => rfl) (fun t _ => ⟨rfl,rfl⟩) (fun pre p post hts => ?_) (goods r) [] rfl
  have hdr:(goods r).drop pre.length = p :: post:=by rw [hts]; simp
  have hdr2:(goods r).drop (pre ++ [p]).length = post:=by rw [hts]; simp
  have hpo:=goods_ok hr p (by rw [hts]; simp)
  have hple:=goods_len hr (p:=p) (by rw [hts]; simp)
  have hpc:pre.length ≤ 16777215:=by rw [hts] at hcount; simp at hcount; omega
  have hfc:(pre.filter (isW r)).length ≤ 16777215:=Nat.le_trans (List.length_filter_le _ _) hpc
  have hprg:∀ d,AV.prgL d (cellsT p.1) = cellsT p.1:=fun d => prgL_pure d (cellsT_pure _)
  have hF:wholeF r g pre = [.box [iv ((pre.filter (isW r)).length:Int)],.guest g (((p :: post).filter (isW r)).map (entW r))]:=by rw [← hdr]; rfl
  have hF2:wholeF r g (pre ++ [p]) = [.box [iv (((pre ++ [p]).filter (isW r)).length:Int)],.guest g ((post.filter (isW r)).map (entW r))]:=by simp only [wholeF,hdr2]
  rw [hF,hF2]
  clear hF hF2 hdr hdr2
  intro C1 h1 h2 h3 h4
  have hP0:=hP
  replace hP:=h1.trans hP0
  rw [ownW_upd (by simp)]
  have hsl:(r.stops.length:Int) = (r.n:Int):=rfl
  generalize hN:(pre.filter (isW r)).length = N at hfc ⊢
  simp only [go_sem,lendF_upd,lendF_e0,AV.lend,AV.lendL,Option.getD_some,Option.getD_none,List.zip_cons_cons,List.zip_nil_right,updLo,entT,vanv]
  (repeat ((first | refine Va ?_ | refine Vb ?_ | refine Vc ?_ | refine Vd ?_ | refine Ve ?_ | refine Vf ?_); (try simp only [go_sem,hP]); (repeat refine qJ ?_)))
  intro C2 h1 h2 h3 h4
  replace hP:=h1.trans hP0
  (repeat ((first | refine Va ?_ | refine Vb ?_ | refine Vc ?_ | refine Vd ?_ | refine Ve ?_ | refine Vf ?_); (try simp only [go_sem,hP,hprg,Route.cds,stopsC]); (repeat refine qJ ?_)))
  (refine WV_cond rfl (fun h => ?_) (fun h => ?_))
  ·have hw:isW r p = false:=by simp only [isW,hsl,decide_eq_true_eq,Int.ofNat_lt] at h ⊢; simp [h]
   rw [List.filter_cons,hw,if_neg (by simp),List.filter_append,List.filter_cons,hw]
   simp only [Bool.false_eq_true,if_false,List.filter_nil,List.append_nil,hN]
   (repeat ((first | refine Va ?_ | refine Vb ?_ | refine Vc ?_ | refine Vd ?_ | refine Ve ?_ | refine Vf ?_); (try simp only [go_sem,hP]); (repeat refine qJ ?_)))
   refine ⟨none,_,rfl,?_,rfl,rfl⟩; refine KeepL_mk rfl rfl ?_ ?_ rfl
   ·simp only [go_sem,keepAll,Ob.keepP,AV.keepP,AV.keepPL]
   ·simp only [go_sem,winAll]
  ·have hw:isW r p = true:=by simp only [isW,hsl,decide_eq_false_iff_not,Int.ofNat_lt] at h ⊢; simp [h]
   rw [List.filter_cons,hw,if_pos rfl,List.filter_append,List.filter_cons,hw]
   simp only [if_true,List.filter_nil,List.length_append,List.length_singleton,hN,List.map_cons]
   (repeat ((first | refine Va ?_ | refine Vb ?_ | refine Vc ?_ | refine Vd ?_ | refine Ve ?_ | refine Vf ?_); (try simp only [go_sem,hP]); (repeat refine qJ ?_)))
   rw [w64 (by omega) (by omega)]
   (repeat ((first | refine Va ?_ | refine Vb ?_ | refine Vc ?_ | refine Vd ?_ | refine Ve ?_ | refine Vf ?_); (try simp only [go_sem,hP]); (repeat refine qJ ?_)))
   (refine WV_cond rfl (fun h => ?_) (fun h => ?_))
   ·have hne:p.1 ≠ []:=by rintro e; rw [e] at h; simp at h
    (repeat ((first | refine Va ?_ | refine Vb ?_ | refine Vc ?_ | refine Vd ?_ | refine Ve ?_ | refine Vf ?_); (try simp only [go_sem,hP]); (repeat refine qJ ?_)))
    have hh:=home68 hr hpo.2.2 (by omega)
    (refine AS_pu (hh) ?_; simp only [go_sem,hP,vanv,Route.cds,stopsC]; (repeat refine qJ ?_); (repeat ((first | refine Va ?_ | refine Vb ?_ | refine Vc ?_ | refine Vd ?_ | refine Ve ?_ | refine Vf ?_); (try simp only [go_sem,hP,vanv,Route.cds,stopsC]); (repeat refine qJ ?_))))
    refine AS_guest 1001 [2000] (g:=g) (e:=entW r p) (rem:=(post.filter (isW r)).map (entW r)) rfl rfl rfl rfl (by decide) ?_ ?_ ?_
    ·simp only [go_sem,AV.lendL,AV.lend,entW,vanv,atHome,home,hne,Route.cds,stopsC]
    ·exact ⟨⟨⟨_,rfl,[],List.append_nil _⟩,cellsT_pure _⟩,trivial⟩
    ·simp only [go_sem,hP,entW,hprg]
     (repeat ((first | refine Va ?_ | refine Vb ?_ | refine Vc ?_ | refine Vd ?_ | refine Ve ?_ | refine Vf ?_); (try simp only [go_sem,hP]); (repeat refine qJ ?_)))
     refine ⟨none,_,rfl,?_,rfl,rfl⟩; refine KeepL_mk rfl rfl ?_ ?_ rfl
     ·simp only [go_sem,keepAll,Ob.keepP,AV.keepP,AV.keepPL,Int.natCast_add,Int.natCast_one]
     ·simp only [go_sem,winAll]
   ·have hne:p.1 = []:=by simpa using h
    (repeat ((first | refine Va ?_ | refine Vb ?_ | refine Vc ?_ | refine Vd ?_ | refine Ve ?_ | refine Vf ?_); (try simp only [go_sem,hP]); (repeat refine qJ ?_)))
    refine AS_guest 1001 [2000] (g:=g) (e:=entW r p) (rem:=(post.filter (isW r)).map (entW r)) rfl rfl rfl rfl (by decide) ?_ ?_ ?_
    ·simp only [go_sem,AV.lendL,AV.lend,entW,vanv,atHome,home,hne,Route.cds,stopsC]
    ·exact ⟨⟨⟨_,rfl,[],List.append_nil _⟩,cellsT_pure _⟩,trivial⟩
    ·simp only [go_sem,hP,entW,hprg]
     (repeat ((first | refine Va ?_ | refine Vb ?_ | refine Vc ?_ | refine Vd ?_ | refine Ve ?_ | refine Vf ?_); (try simp only [go_sem,hP]); (repeat refine qJ ?_)))
     refine ⟨none,_,rfl,?_,rfl,rfl⟩; refine KeepL_mk rfl rfl ?_ ?_ rfl
     ·simp only [go_sem,keepAll,Ob.keepP,AV.keepP,AV.keepPL,Int.natCast_add,Int.natCast_one]
     ·simp only [go_sem,winAll]
 ·rintro _ _ ⟨rfl,rfl⟩
  refine ⟨_,rfl,rfl,?_⟩
  simp only [go_sem,exitOf,ownBack,wholeF,List.drop_length,List.filter_nil,wholes]
  (repeat ((first | refine Va ?_ | refine Vb ?_ | refine Vc ?_ | refine Vd ?_ | refine Ve ?_ | refine Vf ?_); (try simp only [go_sem,hP]); (repeat refine qJ ?_)))
  (refine WV_ret ?_; simp only [thenQ,inQ,RetQL,RetOkL,resAll,resA]; simp only [go_sem,tupA,AV.keepP,AV.keepPL]; refine ⟨_,[.guest g []],rfl,KeepL_mk rfl rfl ?_ ?_ rfl,?_⟩)
  ·simp only [go_sem,keepAll,Ob.keepP]
  ·trivial
  ·exact ⟨rfl,rfl⟩
end Go.Proofs.Ytakplakbbidihaa

namespace Go.Proofs.Ytakplakbbidihaa
open Go Go.V
abbrev o47_0:List Ins:=[⟨some 2,.box 3 (.t 0),none,true⟩,
 ⟨some 4,.mv (.k (.c (.int .i64 0))),none,true⟩]
abbrev o47_1:List Ins:=[⟨some 6,.ld false 3 (.t 2),none,true⟩,
 ⟨some 7,.call (.k (.fn 30 [])) [(.t 6)],none,true⟩,
 ⟨some 5,.mv (.t 7),none,true⟩]
abbrev o47_2:List Ins:=[⟨some 8,.mv (.t 5),none,true⟩,
 ⟨some 9,.bin .neq (.t 8) (.k (.c (.int .i64 0))),none,true⟩]
abbrev o47_3:List Ins:=[⟨some 10,.mv (.t 5),none,true⟩,
 ⟨some 4,.mv (.t 10),none,true⟩]
abbrev v47_4:VC:=(.seq (.ops o47_3) .ret)
abbrev v47_5:VC:=(.cond (.t 9) v47_4 .skip)
abbrev v47_6:VC:=(.seq (.ops o47_2) v47_5)
abbrev o47_7:List Ins:=[⟨some 11,.mv (.t 1),none,true⟩,
 ⟨some 12,.call (.k (.fn 56 [])) [(.t 2),(.t 11)],none,true⟩,
 ⟨some 13,.bin .eql (.t 12) (.k (.c (.int .i64 0))),none,true⟩]
abbrev o47_8:List Ins:=[⟨some 4,.mv (.k (.c (.int .i64 3))),none,true⟩]
abbrev v47_9:VC:=(.seq (.ops o47_8) .ret)
abbrev v47_10:VC:=(.cond (.t 13) v47_9 .skip)
abbrev o47_11:List Ins:=[⟨some 4,.mv (.k (.c (.int .i64 0))),none,true⟩]
abbrev v47_12:VC:=(.seq (.ops o47_11) .ret)
abbrev v47_13:VC:=(.seq (.seq (.ops o47_7) v47_10) v47_12)
abbrev v47_14:VC:=(.seq (.seq (.ops o47_1) v47_6) v47_13)
def ir47:FC:=⟨2,14,[.t 4],(.seq (.ops o47_0) v47_14)⟩
theorem c47:compM Try.prog [] 47 = some ir47:=by kernel_rfl
attribute [local go_sem] Nat.reduceEqDiff Nat.reduceAdd Nat.reduceMul reduceIte Nat.reduceLeDiff Nat.reduceLT Nat.reduceBEq reduceCtorEq
def wholesOf (r:Route):List (List Nat × Van):=if r.ok then wholes r else []
def someE (r:Route):Int:=if r.ok then (if wholes r = [] then 3 else 0) else 80
set_option maxHeartbeats 1000000 in
theorem some61 (r:Route) (g:Gst):FSpecL Try.prog 47 [r.av,.c (.raw g.fv)] [.guest g ((wholesOf r).map (entW r))] [] (fun res l' => res = iv (someE r) ∧ l' = [.guest g []]):=by
 refine FSpecL_of c47 (by first | simp | exact Nat.le_of_ble_eq_true rfl) (Nat.le_refl _) (by decide) (by decide) fun C hP hN hC hL => ?_; rw [init_env',ownW_upd (by first | simp | exact Nat.le_of_ble_eq_true rfl)]; simp only [ir47,updL,updLo,List.map_nil,List.map_cons,Nat.reduceAdd,Route.av]
 (repeat ((first | refine Va ?_ | refine Vb ?_ | refine Vc ?_ | refine Vd ?_ | refine Ve ?_ | refine Vf ?_); (try simp only [go_sem,hP]); (repeat refine qJ ?_)))
 (refine AS_pu (rcheck_spec r) ?_; simp only [go_sem,hP,Route.av]; (repeat refine qJ ?_); (repeat ((first | refine Va ?_ | refine Vb ?_ | refine Vc ?_ | refine Vd ?_ | refine Ve ?_ | refine Vf ?_); (try simp only [go_sem,hP,Route.av]); (repeat refine qJ ?_))))
 by_cases hok:r.ok = true
 ·have hr:=Route.ok_spec hok
  rw [show wholesOf r = wholes r from if_pos hok]
  simp only [hok,if_true]
  (refine WV_cond rfl (fun h => ?_) (fun h => ?_))
  ·simp at h
  ·refine WV_freeze 2 (ds:=r.cds) rfl rfl ?_
   (repeat ((first | refine Va ?_ | refine Vb ?_ | refine Vc ?_ | refine Vd ?_ | refine Ve ?_ | refine Vf ?_); (try simp only [go_sem,hP]); (repeat refine qJ ?_)))
   refine AS_lend [1000] (whole50 hr g) rfl rfl rfl (by decide) ?_ ?_ ?_
   ·simp only [go_sem,AV.lendL,AV.lend,Route.cds]
   ·simp only [go_sem,obsLend,Ob.lend,AV.lendL,AV.lend]
   ·rintro res l' ⟨rfl,rfl⟩
    refine ⟨_,_,rfl,rfl,?_⟩
    simp only [go_sem,ownBack]
    (repeat ((first | refine Va ?_ | refine Vb ?_ | refine Vc ?_ | refine Vd ?_ | refine Ve ?_ | refine Vf ?_); (try simp only [go_sem,hP]); (repeat refine qJ ?_)))
    (refine WV_cond rfl (fun h => ?_) (fun h => ?_))
    ·have hw:wholes r = []:=by simpa using h
     (repeat ((first | refine Va ?_ | refine Vb ?_ | refine Vc ?_ | refine Vd ?_ | refine Ve ?_ | refine Vf ?_); (try simp only [go_sem,hP]); (repeat refine qJ ?_)))
     (refine WV_ret ?_; simp only [thenQ,inQ,RetQL,RetOkL,resAll,resA]; simp only [go_sem,tupA,AV.keepP,AV.keepPL]; refine ⟨_,[.guest g []],rfl,KeepL_mk rfl rfl ?_ ?_ rfl,?_⟩)
     ·simp only [go_sem,keepAll,Ob.keepP]
     ·trivial
     ·simp [someE,hok,hw]
    ·have hw:wholes r ≠ []:=by intro e; rw [e] at h; simp at h
     (repeat ((first | refine Va ?_ | refine Vb ?_ | refine Vc ?_ | refine Vd ?_ | refine Ve ?_ | refine Vf ?_); (try simp only [go_sem,hP]); (repeat refine qJ ?_)))
     (refine WV_ret ?_; simp only [thenQ,inQ,RetQL,RetOkL,resAll,resA]; simp only [go_sem,tupA,AV.keepP,AV.keepPL]; refine ⟨_,[.guest g []],rfl,KeepL_mk rfl rfl ?_ ?_ rfl,?_⟩)
     ·simp only [go_sem,keepAll,Ob.keepP]
     ·trivial
     ·simp [someE,hok,hw]
 ·have hok:r.ok = false:=by simpa using hok
  rw [show wholesOf r = [] from by simp [wholesOf,hok]]
  simp only [hok,Bool.false_eq_true,if_false]
  (refine WV_cond rfl (fun h => ?_) (fun h => ?_))
  ·(repeat ((first | refine Va ?_ | refine Vb ?_ | refine Vc ?_ | refine Vd ?_ | refine Ve ?_ | refine Vf ?_); (try simp only [go_sem,hP]); (repeat refine qJ ?_)))
   (refine WV_ret ?_; simp only [thenQ,inQ,RetQL,RetOkL,resAll,resA]; simp only [go_sem,tupA,AV.keepP,AV.keepPL]; refine ⟨_,[.guest g []],rfl,KeepL_mk rfl rfl ?_ ?_ rfl,?_⟩)
   ·simp only [go_sem,keepAll,Ob.keepP]
   ·trivial
   ·simp [someE,hok]
  ·simp at h
end Go.Proofs.Ytakplakbbidihaa

namespace Go.Proofs.Ytakplakbbidihaa
open Go Go.V
attribute [local go_sem] Nat.reduceEqDiff Nat.reduceAdd Nat.reduceMul reduceIte Nat.reduceLeDiff Nat.reduceLT Nat.reduceBEq reduceCtorEq
theorem someE_ok {r:Route} (h:someE r = 0):r.ok = true ∧ wholes r ≠ []:=by
 unfold someE at h
 cases hk:r.ok with
 | false => rw [hk] at h; simp at h
 | true => rw [hk] at h; refine ⟨rfl,fun e => ?_⟩; rw [e] at h; simp at h
end Go.Proofs.Ytakplakbbidihaa

namespace Go.Proofs.Ytakplakbbidihaa
open Go Go.V
attribute [local go_sem] Nat.reduceEqDiff Nat.reduceAdd Nat.reduceMul reduceIte Nat.reduceLeDiff Nat.reduceLT Nat.reduceBEq reduceCtorEq
def backL (r:Route):List Nat → Option Int
 | [] => some 1440
 | [k] => some (r.s k).cl
 | k :: k' :: ks => match backL r (k' :: ks) with
  | none => none
  | some b => if min (r.s k).cl (b - r.d k k' - (r.s k).st) < (r.s k).op then none else some (min (r.s k).cl (b - r.d k k' - (r.s k).st))
end Go.Proofs.Ytakplakbbidihaa

namespace Go.Proofs.Ytakplakbbidihaa
open Go Go.V
attribute [local go_sem] Nat.reduceEqDiff Nat.reduceAdd Nat.reduceMul reduceIte Nat.reduceLeDiff Nat.reduceLT Nat.reduceBEq reduceCtorEq
def zero (r:Route):Route:={ r with start:=0 }
theorem elemsV_win {own:Nat → Ob} {n cap:Nat} {t:List Nat} (h:own n = .win (cellsT t)):AV.elemsV own (.vw 1 n 0 t.length cap) = some (1,(t.map fun (k:Nat) => (k:Int)).map fun n => [CD.int .i64 n]) :=
 elemsV_T (t:=t) (junk:=[]) (by rw [h]; simp [Ob.cellsR]) rfl
end Go.Proofs.Ytakplakbbidihaa

namespace Go.Proofs.Ytakplakbbidihaa
open Go Go.V
abbrev o48_0:List Ins:=[⟨some 5,.box 4 (.t 1),none,true⟩]
abbrev o48_1:List Ins:=[⟨some 6,.ld true 1 (.t 2),none,true⟩,
 ⟨some 7,.bin .lss (.t 6) (.k (.c (.int .i64 0))),none,true⟩,
 ⟨some 8,.mv (.t 7),none,true⟩,
 ⟨some 9,.fa 3 (.t 5),(some (8,false)),true⟩,
 ⟨some 10,.ld true 1 (.t 9),(some (8,false)),true⟩,
 ⟨some 11,.ld true 1 (.t 2),(some (8,false)),true⟩,
 ⟨some 12,.bin .lss (.t 10) (.t 11),(some (8,false)),true⟩,
 ⟨some 13,.pick (.t 8) (.k (.c (.bool true))) (.t 12),none,true⟩]
abbrev t48_2:OT:=(.cons ⟨some 14,.mv (.t 0),none,false⟩
 (.br [(.cons ⟨some 15,.call (.k (.fn 49 [])) [(.t 14)],none,true⟩
  (.cons ⟨some 16,.fa 3 (.t 5),none,false⟩
  (.br [(.cons ⟨some 17,.ld true 1 (.t 16),none,false⟩
   (.cons ⟨none,.st 1 (.t 3) (.t 15),none,false⟩
   (.cons ⟨none,.st 1 (.t 2) (.t 17),none,true⟩
   .nil))),(.cons ⟨none,.st 1 (.t 3) (.t 15),none,false⟩
   (.cons ⟨some 17,.ld true 1 (.t 16),none,false⟩
   (.cons ⟨none,.st 1 (.t 2) (.t 17),none,true⟩
   .nil)))]))),(.cons ⟨some 16,.fa 3 (.t 5),none,false⟩
  (.br [(.cons ⟨some 15,.call (.k (.fn 49 [])) [(.t 14)],none,true⟩
   (.br [(.cons ⟨some 17,.ld true 1 (.t 16),none,false⟩
    (.cons ⟨none,.st 1 (.t 3) (.t 15),none,false⟩
    (.cons ⟨none,.st 1 (.t 2) (.t 17),none,true⟩
    .nil))),(.cons ⟨none,.st 1 (.t 3) (.t 15),none,false⟩
    (.cons ⟨some 17,.ld true 1 (.t 16),none,false⟩
    (.cons ⟨none,.st 1 (.t 2) (.t 17),none,true⟩
    .nil)))])),(.cons ⟨some 17,.ld true 1 (.t 16),none,false⟩
   (.cons ⟨some 15,.call (.k (.fn 49 [])) [(.t 14)],none,true⟩
   (.cons ⟨none,.st 1 (.t 3) (.t 15),none,false⟩
   (.cons ⟨none,.st 1 (.t 2) (.t 17),none,true⟩
   .nil))))]))]))
abbrev v48_3:VC:=(.cond (.t 13) (.drw t48_2) .skip)
abbrev v48_4:VC:=(.seq (.ops o48_1) v48_3)
def ir48:FC:=⟨4,18,[],(.seq (.ops o48_0) v48_4)⟩
abbrev o32_0:List Ins:=[⟨some 1,.box 3 (.t 0),none,true⟩,
 ⟨some 2,.alloc [(.c (.raw (.slice none 0 0)))],none,true⟩,
 ⟨some 3,.alloc [(.c (.int .i64 0))],none,true⟩,
 ⟨some 4,.mv (.k (.c (.int .i64 0))),none,true⟩]
abbrev o32_1:List Ins:=[⟨none,.st 1 (.t 3) (.k (.c (.int .i64 (-1)))),none,true⟩]
abbrev o32_2:List Ins:=[⟨some 5,.ld false 3 (.t 1),none,true⟩,
 ⟨some 6,.mkfn 48 [(.t 3),(.t 2)],none,true⟩,
 ⟨some 7,.call (.k (.fn 47 [])) [(.t 5),(.t 6)],none,true⟩,
 ⟨some 4,.mv (.t 7),none,true⟩]
abbrev t32_3:OT:=(.cons ⟨some 8,.ld true 1 (.t 2),none,false⟩
 (.cons ⟨some 10,.mv (.t 4),none,false⟩
 (.br [(.cons ⟨some 9,.ld true 1 (.t 3),none,false⟩
  (.cons ⟨none,.st 1 (.t 2) (.t 8),none,false⟩
  (.cons ⟨none,.st 1 (.t 3) (.t 9),none,false⟩
  (.cons ⟨some 4,.mv (.t 10),none,true⟩
  .nil)))),(.cons ⟨none,.st 1 (.t 2) (.t 8),none,false⟩
  (.cons ⟨some 9,.ld true 1 (.t 3),none,false⟩
  (.cons ⟨none,.st 1 (.t 3) (.t 9),none,false⟩
  (.cons ⟨some 4,.mv (.t 10),none,true⟩
  .nil))))])))
abbrev v32_4:VC:=(.seq (.drw t32_3) .ret)
abbrev v32_5:VC:=(.seq (.ops o32_2) v32_4)
abbrev v32_6:VC:=(.seq (.ops o32_1) v32_5)
def ir32:FC:=⟨1,11,[.cell 2 true 1,.cell 3 true 1,.t 4],(.seq (.ops o32_0) v32_6)⟩
abbrev o14_0:List Ins:=[⟨some 1,.box 3 (.t 0),none,true⟩,
 ⟨some 2,.mv (.k (.c (.raw (.slice none 0 0)))),none,true⟩,
 ⟨some 3,.mv (.k (.c (.int .i64 0))),none,true⟩]
abbrev o14_1:List Ins:=[⟨some 8,.ld false 3 (.t 1),none,true⟩,
 ⟨some 9,.call (.k (.fn 32 [])) [(.t 8)],none,true⟩,
 ⟨some 7,.mv (.t 9),none,true⟩,
 ⟨some 10,.ext (.t 7) 0,none,true⟩,
 ⟨some 11,.ext (.t 7) 1,none,true⟩,
 ⟨some 12,.ext (.t 7) 2,none,true⟩,
 ⟨some 4,.mv (.t 10),none,true⟩,
 ⟨some 5,.mv (.t 11),none,true⟩,
 ⟨some 6,.mv (.t 12),none,true⟩]
abbrev o14_2:List Ins:=[⟨some 13,.mv (.t 6),none,true⟩,
 ⟨some 14,.bin .neq (.t 13) (.k (.c (.int .i64 0))),none,true⟩]
abbrev o14_3:List Ins:=[⟨some 15,.mv (.t 6),none,true⟩,
 ⟨some 2,.mv (.k (.c (.raw (.slice none 0 0)))),none,true⟩,
 ⟨some 3,.mv (.t 15),none,true⟩]
abbrev v14_4:VC:=(.seq (.ops o14_3) .ret)
abbrev v14_5:VC:=(.cond (.t 14) v14_4 .skip)
abbrev o14_6:List Ins:=[⟨some 16,.mv (.t 4),none,true⟩,
 ⟨some 2,.mv (.t 16),none,true⟩,
 ⟨some 3,.mv (.k (.c (.int .i64 0))),none,true⟩]
abbrev v14_7:VC:=(.seq (.ops o14_6) .ret)
abbrev v14_8:VC:=(.seq (.seq (.ops o14_2) v14_5) v14_7)
abbrev v14_9:VC:=(.seq (.ops o14_1) v14_8)
def ir14:FC:=⟨1,17,[.t 2,.t 3],(.seq (.ops o14_0) v14_9)⟩
theorem c48:compM Try.prog [15] 48 = some ir48:=by kernel_rfl
theorem c32:compM Try.prog [] 32 = some ir32:=by kernel_rfl
theorem c14:compM Try.prog [] 14 = some ir14:=by kernel_rfl
attribute [local go_sem] Nat.reduceEqDiff Nat.reduceAdd Nat.reduceMul reduceIte Nat.reduceLeDiff Nat.reduceLT Nat.reduceBEq reduceCtorEq
def wayC:Option (List Nat) → CD
 | none => .raw (.slice none 0 0)
 | some t => nats t
def shortT (s:Int × Option (List Nat)) (n:Int) (t:List Nat):Int × Option (List Nat):=if s.1 < 0 ∨ n < s.1 then (n,some t) else s
def shortB (r:Route) (l:List (List Nat × Van)):Int × Option (List Nat):=l.foldl (fun s p => shortT s (atHome r p).long p.1) (-1,none)
theorem shortB_snoc (r:Route) (l:List (List Nat × Van)) (p:List Nat × Van):shortB r (l ++ [p]) = shortT (shortB r l) (atHome r p).long p.1:=by simp [shortB]
def shortO (s:Int × Option (List Nat)):List Ob:=[.box [iv s.1],.box [.c (wayC s.2)]]
set_option maxHeartbeats 1000000 in
theorem short69 (r:Route) (v:Van) (s:Int × Option (List Nat)) {t:List Nat} (hlen:t.length ≤ 100):FSpecL Try.prog 48 [.vw 1 2000 0 t.length r.n,vanv r v,.bp 1000 0,.bp 1001 0] [.box [iv s.1],.box [.c (wayC s.2)]] [cellsT t] (fun res l' => res = .tup [] ∧ l' = shortO (shortT s v.long t)):=by
 have hprg:∀ d,AV.prgL d (cellsT t) = cellsT t:=fun d => prgL_pure d (cellsT_pure _)
 refine FSpecL_of c48 (by first | simp | exact Nat.le_of_ble_eq_true rfl) (Nat.le_refl _) (by decide) (by decide) fun C hP hN hC hL => ?_; rw [init_env',ownW_upd (by first | simp | exact Nat.le_of_ble_eq_true rfl)]; simp only [ir48,updL,updLo,List.map_nil,List.map_cons,Nat.reduceAdd,vanv,shortO]
 (repeat ((first | refine Va ?_ | refine Vb ?_ | refine Vc ?_ | refine Vd ?_ | refine Ve ?_ | refine Vf ?_); (try simp only [go_sem,hP,hprg]); (repeat refine qJ ?_)))
 (refine WV_cond rfl (fun h => ?_) (fun h => ?_))
 ·have h:s.1 < 0 ∨ v.long < s.1:=by simpa using h
  have e:shortT s v.long t = (v.long,some t):=if_pos h
  rw [e]
  (refine WV_drw ?_; simp only [go_sem,hP,hprg]; (repeat' (refine And.intro ?_ ?_)))
  all_goals
   refine AS_fresh (clone70 (t.map fun (k:Nat) => (k:Int)) (by simp; omega)) rfl rfl rfl ?_ rfl ?_
   ·simp only [go_sem,AV.vportL,AV.vport]
    rw [elemsV_win (t:=t) rfl]
    rfl
   ·simp only [go_sem,hP,hprg]
    try refine ⟨trivial,?_⟩
    ((try simp only [thenQ,inQ,RetQL,RetOkL,resAll,resA]); (try simp only [go_sem,tupA,AV.keepP,AV.keepPL]); refine ⟨_,[.box [iv v.long],.box [.c (wayC (some t))]],rfl,KeepL_mk rfl rfl ?_ ?_ rfl,?_⟩)
    ·simp only [go_sem,keepAll,Ob.keepP,AV.keepP,AV.keepPL,wayC,nats]
    ·simp only [go_sem,winAll]
    ·exact ⟨rfl,rfl⟩
 ·have h:¬ (s.1 < 0 ∨ v.long < s.1):=by simpa using h
  have e:shortT s v.long t = s:=if_neg h
  rw [e]
  (repeat ((first | refine Va ?_ | refine Vb ?_ | refine Vc ?_ | refine Vd ?_ | refine Ve ?_ | refine Vf ?_); (try simp only [go_sem,hP,hprg]); (repeat refine qJ ?_)))
  ((try simp only [thenQ,inQ,RetQL,RetOkL,resAll,resA]); (try simp only [go_sem,tupA,AV.keepP,AV.keepPL]); refine ⟨_,[.box [iv s.1],.box [.c (wayC s.2)]],rfl,KeepL_mk rfl rfl ?_ ?_ rfl,?_⟩)
  ·simp only [go_sem,keepAll,Ob.keepP,AV.keepP,AV.keepPL,e]
  ·simp only [go_sem,winAll]
  ·exact ⟨rfl,rfl⟩
set_option maxHeartbeats 1000000 in
theorem short53 (r:Route):FSpec Try.prog 32 [r.av] (.tup [.c (wayC (shortB r (wholesOf r)).2),iv (shortB r (wholesOf r)).1,iv (someE r)]):=by
 refine FSpec_of c32 (Nat.le_refl _) (by decide) fun C hP hN hC hL => ?_; rw [init_st]
 simp only [ir32,Route.av]
 (repeat ((first | refine Va ?_ | refine Vb ?_ | refine Vc ?_ | refine Vd ?_ | refine Ve ?_ | refine Vf ?_); (try simp only [go_sem,hP]); (repeat refine qJ ?_)))
 ·refine AS_clos [3,2] [r.av] [] (l:=shortO (shortB r [])) (lf:=shortO (shortB r (wholesOf r))) (r:=iv (someE r)) (some61 r) rfl rfl rfl (by decide) (by decide) rfl rfl rfl rfl ?_ (short69 r (leave r) (0,none) (t:=[]) (by simp)).1 ?_ rfl ?_
  ·simp only [go_sem,obsLend,Ob.lend,AV.lendL,AV.lend,shortO,shortB,List.foldl_nil,wayC]
  ·refine Run_pre (entW r) (fun pre => shortO (shortB r pre)) (wholesOf r) (fun p => rfl) (fun t _ => rfl) (fun pre p post hts => ?_) _ [] rfl
   have hp:p ∈ wholesOf r:=by rw [hts]; simp
   have hl:p.1.length ≤ 100:=by
    unfold wholesOf at hp
    split at hp
    ·rename_i hok
     have hr:=Route.ok_spec hok
     have h7:=hr.n7
     have:=goods_len hr (List.mem_filter.1 hp).1
     omega
    ·cases hp
   have:=short69 r (atHome r p) (shortB r pre) hl
   simp only [shortB_snoc]
   exact this
  ·refine ⟨_,rfl,rfl,?_⟩
   simp only [go_sem,ownBack]
   (repeat ((first | refine Va ?_ | refine Vb ?_ | refine Vc ?_ | refine Vd ?_ | refine Ve ?_ | refine Vf ?_); (try simp only [go_sem,hP]); (repeat refine qJ ?_)))
   (refine WV_drw ?_; simp only [go_sem,hP]; (repeat' (refine And.intro ?_ ?_)))
   all_goals ((refine WV_ret ?_; simp only [thenQ,inQ,RetQ,RetOk,resAll,resA]; simp only [go_sem,tupA,AV.port,AV.portL,exists_eq_left']; (first | exact AVle.of rfl | refine AVle.of ?_ | skip)))
def wayS (r:Route):CD × Int:=if someE r = 0 then (wayC (shortB r (wholes r)).2,0) else (ints [],someE r)
theorem way18 (r:Route):FSpec Try.prog 14 [r.av] (.tup [.c (wayS r).1,iv (wayS r).2]):=by
 refine FSpec_of c14 (Nat.le_refl _) (by decide) fun C hP hN hC hL => ?_; rw [init_st]
 simp only [ir14,Route.av]
 (repeat ((first | refine Va ?_ | refine Vb ?_ | refine Vc ?_ | refine Vd ?_ | refine Ve ?_ | refine Vf ?_); (try simp only [go_sem,hP]); (repeat refine qJ ?_)))
 (refine AS_pu (short53 r) ?_; simp only [go_sem,hP,Route.av]; (repeat refine qJ ?_); (repeat ((first | refine Va ?_ | refine Vb ?_ | refine Vc ?_ | refine Vd ?_ | refine Ve ?_ | refine Vf ?_); (try simp only [go_sem,hP,Route.av]); (repeat refine qJ ?_))))
 (refine WV_cond rfl (fun h => ?_) (fun h => ?_))
 ·have h:someE r ≠ 0:=by simpa using h
  have e:wayS r = (ints [],someE r):=if_neg h
  rw [e]
  (repeat ((first | refine Va ?_ | refine Vb ?_ | refine Vc ?_ | refine Vd ?_ | refine Ve ?_ | refine Vf ?_); (try simp only [go_sem,hP]); (repeat refine qJ ?_)))
  (refine WV_ret ?_; simp only [thenQ,inQ,RetQ,RetOk,resAll,resA]; simp only [go_sem,tupA,AV.port,AV.portL,exists_eq_left'])
  exact AVle.tup (AVles.cons (AVle.nil 1) (AVles.refl _))
 ·have h:someE r = 0:=by simpa using h
  (repeat ((first | refine Va ?_ | refine Vb ?_ | refine Vc ?_ | refine Vd ?_ | refine Ve ?_ | refine Vf ?_); (try simp only [go_sem,hP]); (repeat refine qJ ?_)))
  (refine WV_ret ?_; simp only [thenQ,inQ,RetQ,RetOk,resAll,resA]; simp only [go_sem,tupA,AV.port,AV.portL,exists_eq_left']; (first | exact AVle.of rfl | refine AVle.of ?_ | skip))
  simp [wayS,h,wholesOf,(someE_ok h).1]
end Go.Proofs.Ytakplakbbidihaa

namespace Go.Proofs.Ytakplakbbidihaa
open Go Go.V
abbrev o13_0:List Ins:=[⟨some 1,.box 3 (.t 0),none,true⟩,
 ⟨some 2,.mv (.k (.c (.int .i64 0))),none,true⟩,
 ⟨some 3,.mv (.k (.c (.int .i64 0))),none,true⟩]
abbrev o13_1:List Ins:=[⟨some 10,.ld false 3 (.t 1),none,true⟩,
 ⟨some 11,.call (.k (.fn 30 [])) [(.t 10)],none,true⟩,
 ⟨some 4,.mv (.t 11),none,true⟩]
abbrev o13_2:List Ins:=[⟨some 12,.mv (.t 4),none,true⟩,
 ⟨some 13,.bin .neq (.t 12) (.k (.c (.int .i64 0))),none,true⟩]
abbrev o13_3:List Ins:=[⟨some 14,.mv (.t 4),none,true⟩,
 ⟨some 2,.mv (.k (.c (.int .i64 0))),none,true⟩,
 ⟨some 3,.mv (.t 14),none,true⟩]
abbrev v13_4:VC:=(.seq (.ops o13_3) .ret)
abbrev v13_5:VC:=(.cond (.t 13) v13_4 .skip)
abbrev v13_6:VC:=(.seq (.ops o13_2) v13_5)
abbrev o13_7:List Ins:=[⟨some 5,.alloc [(.c (.int .i64 0))],none,true⟩,
 ⟨none,.st 1 (.t 5) (.k (.c (.int .i64 0))),none,true⟩]
abbrev o13_8:List Ins:=[⟨some 15,.call (.k (.fn 31 [])) [(.t 1)],none,true⟩]
abbrev o13_9:List Ins:=[⟨some 7,.mv (.k (.c (.int .i64 0))),none,true⟩]
abbrev o13_10:List Ins:=[⟨some 18,.mv (.t 6),none,true⟩,
 ⟨some 19,.len (.t 18),none,true⟩,
 ⟨some 20,.mv (.k (.c (.int .i64 0))),none,true⟩]
abbrev o13_11:List Ins:=[⟨some 21,.bin .lss (.t 20) (.t 19),none,true⟩]
abbrev o13_12:List Ins:=[⟨some 22,.ia 1 (.t 18) (.t 20),none,true⟩,
 ⟨some 23,.ld true 1 (.t 22),none,true⟩,
 ⟨some 9,.mv (.t 23),none,true⟩]
abbrev o13_13:List Ins:=[⟨some 24,.mv (.t 7),none,true⟩,
 ⟨some 25,.fa 0 (.t 1),none,true⟩,
 ⟨some 26,.ld true 1 (.t 25),none,true⟩,
 ⟨some 27,.mv (.t 9),none,true⟩,
 ⟨some 28,.ia 4 (.t 26) (.t 27),none,true⟩,
 ⟨some 29,.fa 3 (.t 28),none,true⟩,
 ⟨some 30,.ld true 1 (.t 29),none,true⟩,
 ⟨some 31,.bin .add (.t 24) (.t 30),none,true⟩,
 ⟨some 7,.mv (.t 31),none,true⟩]
abbrev v13_14:VC:=(.seq (.ops o13_12) (.ops o13_13))
abbrev o13_15:List Ins:=[⟨some 32,.bin .add (.t 20) (.k (.c (.int .i64 1))),none,true⟩,
 ⟨some 20,.mv (.t 32),none,true⟩]
abbrev v13_16:VC:=(.seq (.block 3 v13_14) (.ops o13_15))
abbrev v13_17:VC:=(.seq (.cond (.t 21) .skip (.exit 2)) v13_16)
abbrev v13_18:VC:=(.seq (.ops o13_11) v13_17)
-- K13_2: changed and kept: [20,7]
abbrev K13_2:List Nat:=[1,5,18,19]
abbrev v13_19:VC:=(.loop v13_18)
abbrev v13_20:VC:=(.block 2 v13_19)
abbrev o13_21:List Ins:=[⟨some 33,.ld true 1 (.t 5),none,true⟩,
 ⟨some 34,.mv (.t 7),none,true⟩,
 ⟨some 35,.mm true (.t 33) (.t 34),none,true⟩,
 ⟨none,.st 1 (.t 5) (.t 35),none,true⟩]
abbrev v13_22:VC:=(.seq (.seq (.ops o13_10) v13_20) (.ops o13_21))
abbrev v13_23:VC:=(.seq (.ops o13_9) v13_22)
abbrev v13_24:VC:=(.block 1 v13_23)
abbrev o13_25:List Ins:=[⟨some 6,.mv (.t 16),none,true⟩]
abbrev K13_1:List Nat:=[1,5,15]
abbrev v13_26:VC:=(.rng (.t 15) [16,17] (.ops o13_25) v13_24)
abbrev v13_27:VC:=(.block 0 v13_26)
abbrev o13_28:List Ins:=[⟨some 36,.ld true 1 (.t 5),none,true⟩,
 ⟨some 2,.mv (.t 36),none,true⟩,
 ⟨some 3,.mv (.k (.c (.int .i64 0))),none,true⟩]
abbrev v13_29:VC:=(.seq (.ops o13_28) .ret)
abbrev v13_30:VC:=(.seq (.seq (.ops o13_8) v13_27) v13_29)
abbrev v13_31:VC:=(.seq (.ops o13_7) v13_30)
abbrev v13_32:VC:=(.seq (.seq (.ops o13_1) v13_6) v13_31)
def ir13:FC:=⟨1,37,[.t 2,.t 3],(.seq (.ops o13_0) v13_32)⟩
theorem c13:compM Try.prog [] 13 = some ir13:=by kernel_rfl
attribute [local go_sem] Nat.reduceEqDiff Nat.reduceAdd Nat.reduceMul reduceIte Nat.reduceLeDiff Nat.reduceLT Nat.reduceBEq reduceCtorEq
def cashS (r:Route) (t:List Nat):Int:=(t.map fun k => (r.s k).ca).sum
theorem cashS_snoc (r:Route) (t:List Nat) (k:Nat):cashS r (t ++ [k]) = cashS r t + (r.s k).ca:=by simp [cashS]
theorem cashS_ok {r:Route} (hr:RouteOk r):∀ {t:List Nat},(∀ k ∈ t,k < r.n) → 0 ≤ cashS r t ∧ cashS r t ≤ 99999 * t.length
 | [],_ => by simp [cashS]
 | k :: t,h => by
  have ih:=cashS_ok hr (t:=t) fun j hj => h j (by simp [hj])
  have hk:=hr.stop k (h k (by simp))
  simp only [cashS,List.map_cons,List.sum_cons,List.length_cons] at ih ⊢
  omega
def mostB (r:Route) (l:List (List Nat × Van)):Int:=(l.map fun p => cashS r p.1).foldl max 0
theorem mostB_snoc (r:Route) (l:List (List Nat × Van)) (p:List Nat × Van):mostB r (l ++ [p]) = max (mostB r l) (cashS r p.1):=by simp [mostB]
def mostS (r:Route):Int × Int:=if r.ok then (mostB r (goods r),0) else (0,80)
theorem cellsT_getD {t:List Nat} {k:Nat} (h:k < t.length) (d:AV):(cellsT t).getD k d = iv (t[k]:Int):=by simp [cellsT,h]
set_option maxHeartbeats 4000000 in
theorem most41 (r:Route):FSpec Try.prog 13 [r.av] (.tup [iv (mostS r).1,iv (mostS r).2]):=by
 refine FSpec_of c13 (Nat.le_refl _) (by decide) fun C hP hN hC hL => ?_; rw [init_st]
 simp only [ir13,Route.av]
 (repeat ((first | refine Va ?_ | refine Vb ?_ | refine Vc ?_ | refine Vd ?_ | refine Ve ?_ | refine Vf ?_); (try simp only [go_sem,hP]); (repeat refine qJ ?_)))
 (refine AS_pu (rcheck_spec r) ?_; simp only [go_sem,hP,Route.av]; (repeat refine qJ ?_); (repeat ((first | refine Va ?_ | refine Vb ?_ | refine Vc ?_ | refine Vd ?_ | refine Ve ?_ | refine Vf ?_); (try simp only [go_sem,hP,Route.av]); (repeat refine qJ ?_))))
 by_cases hok:r.ok = true
 ·have hr:=Route.ok_spec hok
  have hn7:=hr.n7
  simp only [hok,if_true]
  (refine WV_cond rfl (fun h => ?_) (fun h => ?_))
  ·simp at h
  ·clear h
   have hsl:(r.stops.length:Int) = (r.n:Int):=rfl
   refine WV_freeze 1 (ds:=r.cds) rfl rfl ?_
   (repeat ((first | refine Va ?_ | refine Vb ?_ | refine Vc ?_ | refine Vd ?_ | refine Ve ?_ | refine Vf ?_); (try simp only [go_sem,hP]); (repeat refine qJ ?_)))
   (refine AS_pu (tours66 r) ?_; simp only [go_sem,hP]; (repeat refine qJ ?_); (repeat ((first | refine Va ?_ | refine Vb ?_ | refine Vc ?_ | refine Vd ?_ | refine Ve ?_ | refine Vf ?_); (try simp only [go_sem,hP]); (repeat refine qJ ?_))))
   refine WV_keep K13_1 ?_
   simp only [go_sem]
   refine WV_rng hC (L:=[5]) (l:=[.box [iv (mostB r [])]]) (env':=lendF [5] _ _) (rem:=(goods r).map (entT r)) (Fin:=fun pend lf => pend = none ∧ lf = [.box [iv (mostB r (goods r))]]) rfl rfl rfl (by decide) (by decide) ?_ (by rw [hN]; decide) (lendF_ok _ _ _) (fun g' => ?_) ?_ ?_
   ·simp only [go_sem,obsLend,Ob.lend,AV.lendL,AV.lend,mostB,List.foldl_nil]
   ·rw [hP]; exact ⟨_,tours74 hr g',fun _ _ h => h⟩
   ·refine RunR_pre (entT r) (fun pre => [.box [iv (mostB r pre)]]) (goods r) (fun p => rfl) (fun t _ => ⟨rfl,rfl⟩) (fun pre p post hts => ?_) (goods r) [] rfl
    have hpo:=goods_ok hr p (by rw [hts]; simp)
    have hple:=goods_len hr (p:=p) (by rw [hts]; simp)
    have hprg:∀ d,AV.prgL d (cellsT p.1) = cellsT p.1:=fun d => prgL_pure d (cellsT_pure _)
    simp only [mostB_snoc]
    intro C1 h1 h2 h3 h4
    have hP0:=hP
    replace hP:=h1.trans hP0
    rw [ownW_upd (by simp)]
    generalize mostB r pre = b
    simp only [go_sem,lendF_upd,lendF_e0,AV.lend,AV.lendL,Option.getD_some,Option.getD_none,List.zip_cons_cons,List.zip_nil_right,updLo,entT,vanv]
    (repeat ((first | refine Va ?_ | refine Vb ?_ | refine Vc ?_ | refine Vd ?_ | refine Ve ?_ | refine Vf ?_); (try simp only [go_sem,hP]); (repeat refine qJ ?_)))
    intro C2 h1 h2 h3 h4
    replace hP:=h1.trans hP0
    (repeat ((first | refine Va ?_ | refine Vb ?_ | refine Vc ?_ | refine Vd ?_ | refine Ve ?_ | refine Vf ?_); (try simp only [go_sem,hP,hprg,Route.cds,stopsC]); (repeat refine qJ ?_)))
    refine WV_loopK K13_2 [] (fun k:Nat => k ≤ p.1.length) (fun k => p.1.length - k) (fun k => [(20,iv k),(7,iv (cashS r (p.1.take k)))]) (fun _ => []) 0 (Nat.zero_le _) ?_ ?_
    ·exact Sub_au
    ·intro k hk
     simp only [go_sem]
     (repeat ((first | refine Va ?_ | refine Vb ?_ | refine Vc ?_ | refine Vd ?_ | refine Ve ?_ | refine Vf ?_); (try simp only [go_sem,hP]); (repeat refine qJ ?_)))
     (refine WV_cond rfl (fun h => ?_) (fun h => ?_))
     ·have h:k < p.1.length:=by simpa using h
      have hkk:=hpo.2.1 _ (List.getElem_mem h)
      have hd1:p.1[k] < r.stops.length:=hkk
      have e1:r.stops[p.1[k]] = r.s p.1[k]:=by simp [Route.s,hd1]
      have hcs:=cashS_ok hr (t:=p.1.take k) fun j hj => hpo.2.1 j (List.mem_of_mem_take hj)
      have htl:(p.1.take k).length ≤ 7:=by rw [List.length_take]; omega
      have hca:=hr.stop _ hkk
      have hw:=w64 (n:=cashS r (p.1.take k) + (r.s p.1[k]).ca) (by omega) (by omega)
      have hw2:=w64 (n:=(k:Int) + 1) (by omega) (by omega)
      (repeat ((first | refine Va ?_ | refine Vb ?_ | refine Vc ?_ | refine Vd ?_ | refine Ve ?_ | refine Vf ?_); (try simp only [go_sem,hP,hprg,Route.cds,stopsC,cellsT_len,cellsT_getD h,Int.toNat_natCast,Nat.mul_one,map_getD hd1,e1,Stop.cds,Int.ofNat_lt,h,hd1,Int.natCast_nonneg,hw,hw2]); (repeat refine qJ ?_)))
      refine ⟨k + 1,by omega,by omega,?_⟩
      rw [List.take_succ_eq_append_getElem (by assumption),cashS_snoc]
      exact Sub_au
     ·have h:k = p.1.length:=by simp at h; omega
      subst h
      rw [List.take_length]
      (repeat ((first | refine Va ?_ | refine Vb ?_ | refine Vc ?_ | refine Vd ?_ | refine Ve ?_ | refine Vf ?_); (try simp only [go_sem,hP,hprg]); (repeat refine qJ ?_)))
      refine ⟨none,_,rfl,?_,rfl,rfl⟩
      refine KeepL_mk rfl rfl ?_ ?_ rfl
      ·simp only [go_sem,keepAll,Ob.keepP,AV.keepP,AV.keepPL]
      ·simp only [go_sem,winAll]
   ·rintro _ _ ⟨rfl,rfl⟩
    refine ⟨_,rfl,rfl,?_⟩
    simp only [go_sem,exitOf,ownBack]
    (repeat ((first | refine Va ?_ | refine Vb ?_ | refine Vc ?_ | refine Vd ?_ | refine Ve ?_ | refine Vf ?_); (try simp only [go_sem,hP]); (repeat refine qJ ?_)))
    (refine WV_ret ?_; simp only [thenQ,inQ,RetQ,RetOk,resAll,resA]; simp only [go_sem,tupA,AV.port,AV.portL,exists_eq_left']; (first | exact AVle.of rfl | refine AVle.of ?_ | skip))
    simp [mostS,hok]
 ·have hok:r.ok = false:=by simpa using hok
  simp only [hok,Bool.false_eq_true,if_false]
  (refine WV_cond rfl (fun h => ?_) (fun h => ?_))
  ·(repeat ((first | refine Va ?_ | refine Vb ?_ | refine Vc ?_ | refine Vd ?_ | refine Ve ?_ | refine Vf ?_); (try simp only [go_sem,hP]); (repeat refine qJ ?_)))
   (refine WV_ret ?_; simp only [thenQ,inQ,RetQ,RetOk,resAll,resA]; simp only [go_sem,tupA,AV.port,AV.portL,exists_eq_left']; (first | exact AVle.of rfl | refine AVle.of ?_ | skip))
   simp [mostS,hok]
  ·simp at h
end Go.Proofs.Ytakplakbbidihaa

namespace Go.Proofs.Ytakplakbbidihaa
open Go Go.V
abbrev o35_0:List Ins:=[⟨some 6,.mv (.k (.c (.bool false))),none,true⟩]
abbrev o35_1:List Ins:=[⟨some 7,.mv (.t 1),none,true⟩,
 ⟨some 8,.mv (.t 0),none,true⟩,
 ⟨some 9,.bin .leq (.t 7) (.t 8),none,true⟩,
 ⟨some 10,.mv (.t 9),none,true⟩,
 ⟨some 11,.mv (.t 0),(some (10,true)),true⟩,
 ⟨some 12,.mv (.t 2),(some (10,true)),true⟩,
 ⟨some 13,.bin .leq (.t 11) (.t 12),(some (10,true)),true⟩,
 ⟨some 14,.pick (.t 10) (.t 13) (.k (.c (.bool false))),none,true⟩,
 ⟨some 6,.mv (.t 14),none,true⟩]
abbrev v35_2:VC:=(.seq (.ops o35_1) .ret)
def ir35:FC:=⟨3,15,[.t 6],(.seq (.ops o35_0) v35_2)⟩
abbrev o27_0:List Ins:=[⟨some 6,.mv (.k (.c (.bool false))),none,true⟩]
abbrev o27_1:List Ins:=[⟨some 7,.mv (.t 0),none,true⟩,
 ⟨some 8,.mv (.t 1),none,true⟩,
 ⟨some 9,.mv (.t 2),none,true⟩,
 ⟨some 10,.call (.k (.fn 35 [])) [(.t 7),(.t 8),(.t 9)],none,true⟩,
 ⟨some 6,.mv (.t 10),none,true⟩]
abbrev v27_2:VC:=(.seq (.ops o27_1) .ret)
def ir27:FC:=⟨3,11,[.t 6],(.seq (.ops o27_0) v27_2)⟩
abbrev o16_0:List Ins:=[⟨some 4,.mv (.k (.c (.bool false))),none,true⟩]
abbrev o16_1:List Ins:=[⟨some 5,.mv (.k (.c (.int .i64 0))),none,true⟩]
abbrev o16_2:List Ins:=[⟨some 6,.mv (.t 5),none,true⟩,
 ⟨some 7,.mv (.t 0),none,true⟩,
 ⟨some 8,.len (.t 7),none,true⟩,
 ⟨some 9,.bin .lss (.t 6) (.t 8),none,true⟩]
abbrev v16_3:VC:=(.cond (.t 9) .skip (.exit 0))
abbrev o16_4:List Ins:=[⟨some 12,.mv (.t 0),none,true⟩,
 ⟨some 13,.mv (.t 5),none,true⟩,
 ⟨some 14,.ia 1 (.t 12) (.t 13),none,true⟩,
 ⟨some 15,.ld true 1 (.t 14),none,true⟩,
 ⟨some 16,.mv (.t 1),none,true⟩,
 ⟨some 17,.bin .eql (.t 15) (.t 16),none,true⟩]
abbrev o16_5:List Ins:=[⟨some 4,.mv (.k (.c (.bool true))),none,true⟩]
abbrev v16_6:VC:=(.seq (.ops o16_5) .ret)
abbrev v16_7:VC:=(.cond (.t 17) v16_6 .skip)
abbrev v16_8:VC:=(.seq (.ops o16_4) v16_7)
abbrev o16_9:List Ins:=[⟨some 10,.mv (.t 5),none,true⟩,
 ⟨some 11,.bin .add (.t 10) (.k (.c (.int .i64 1))),none,true⟩,
 ⟨some 5,.mv (.t 11),none,true⟩]
abbrev v16_10:VC:=(.seq (.block 1 v16_8) (.ops o16_9))
abbrev v16_11:VC:=(.seq (.seq (.ops o16_2) v16_3) v16_10)
-- K16_1: changed and kept: [5]
abbrev K16_1:List Nat:=[0,1]
abbrev v16_12:VC:=(.loop v16_11)
abbrev v16_13:VC:=(.block 0 v16_12)
abbrev o16_14:List Ins:=[⟨some 4,.mv (.k (.c (.bool false))),none,true⟩]
abbrev v16_15:VC:=(.seq (.ops o16_14) .ret)
abbrev v16_16:VC:=(.seq (.seq (.ops o16_1) v16_13) v16_15)
def ir16:FC:=⟨2,18,[.t 4],(.seq (.ops o16_0) v16_16)⟩
abbrev o11_0:List Ins:=[⟨some 1,.box 3 (.t 0),none,true⟩,
 ⟨some 2,.mv (.k (.c (.int .i64 0))),none,true⟩]
abbrev o11_1:List Ins:=[⟨some 8,.fa 0 (.t 1),none,true⟩,
 ⟨some 9,.ld true 1 (.t 8),none,true⟩,
 ⟨some 10,.len (.t 9),none,true⟩,
 ⟨some 3,.mv (.t 10),none,true⟩]
abbrev o11_2:List Ins:=[⟨some 11,.mv (.t 3),none,true⟩,
 ⟨some 12,.bin .gtr (.t 11) (.k (.c (.int .i64 7))),none,true⟩,
 ⟨some 13,.mv (.t 12),none,true⟩,
 ⟨some 14,.fa 1 (.t 1),(some (13,false)),true⟩,
 ⟨some 15,.ld true 1 (.t 14),(some (13,false)),true⟩,
 ⟨some 16,.len (.t 15),(some (13,false)),true⟩,
 ⟨some 17,.mv (.t 3),(some (13,false)),true⟩,
 ⟨some 18,.bin .add (.t 17) (.k (.c (.int .i64 1))),(some (13,false)),true⟩,
 ⟨some 19,.bin .neq (.t 16) (.t 18),(some (13,false)),true⟩,
 ⟨some 20,.pick (.t 13) (.k (.c (.bool true))) (.t 19),none,true⟩,
 ⟨some 21,.mv (.t 20),none,true⟩,
 ⟨some 22,.fa 2 (.t 1),(some (21,false)),true⟩,
 ⟨some 23,.ld true 1 (.t 22),(some (21,false)),true⟩,
 ⟨some 24,.call (.k (.fn 27 [])) [(.t 23),(.k (.c (.int .i64 0))),(.k (.c (.int .i64 1440)))],(some (21,false)),true⟩,
 ⟨some 25,.un .not (.t 24),(some (21,false)),true⟩,
 ⟨some 26,.pick (.t 21) (.k (.c (.bool true))) (.t 25),none,true⟩]
abbrev o11_3:List Ins:=[⟨some 2,.mv (.k (.c (.int .i64 80))),none,true⟩]
abbrev v11_4:VC:=(.seq (.ops o11_3) .ret)
abbrev v11_5:VC:=(.cond (.t 26) v11_4 .skip)
abbrev o11_6:List Ins:=[⟨some 4,.mv (.k (.c (.int .i64 0))),none,true⟩]
abbrev o11_7:List Ins:=[⟨some 27,.mv (.t 4),none,true⟩,
 ⟨some 28,.mv (.t 3),none,true⟩,
 ⟨some 29,.bin .lss (.t 27) (.t 28),none,true⟩]
abbrev v11_8:VC:=(.cond (.t 29) .skip (.exit 0))
abbrev o11_9:List Ins:=[⟨some 32,.fa 0 (.t 1),none,true⟩,
 ⟨some 33,.ld true 1 (.t 32),none,true⟩,
 ⟨some 34,.mv (.t 4),none,true⟩,
 ⟨some 35,.ia 4 (.t 33) (.t 34),none,true⟩,
 ⟨some 36,.ld false 4 (.t 35),none,true⟩,
 ⟨some 5,.alloc [(.c (.int .i64 0)),(.c (.int .i64 0)),(.c (.int .i64 0)),(.c (.int .i64 0))],none,true⟩,
 ⟨none,.st 4 (.t 5) (.t 36),none,true⟩]
abbrev o11_10:List Ins:=[⟨some 37,.fa 0 (.t 5),none,true⟩,
 ⟨some 38,.ld true 1 (.t 37),none,true⟩,
 ⟨some 39,.fa 1 (.t 5),none,true⟩,
 ⟨some 40,.ld true 1 (.t 39),none,true⟩,
 ⟨some 41,.call (.k (.fn 27 [])) [(.t 38),(.k (.c (.int .i64 0))),(.t 40)],none,true⟩,
 ⟨some 42,.un .not (.t 41),none,true⟩,
 ⟨some 43,.mv (.t 42),none,true⟩,
 ⟨some 44,.fa 1 (.t 5),(some (43,false)),true⟩,
 ⟨some 45,.ld true 1 (.t 44),(some (43,false)),true⟩,
 ⟨some 46,.bin .gtr (.t 45) (.k (.c (.int .i64 1440))),(some (43,false)),true⟩,
 ⟨some 47,.pick (.t 43) (.k (.c (.bool true))) (.t 46),none,true⟩,
 ⟨some 48,.mv (.t 47),none,true⟩,
 ⟨some 49,.fa 2 (.t 5),(some (48,false)),true⟩,
 ⟨some 50,.ld true 1 (.t 49),(some (48,false)),true⟩,
 ⟨some 51,.call (.k (.fn 27 [])) [(.t 50),(.k (.c (.int .i64 0))),(.k (.c (.int .i64 1440)))],(some (48,false)),true⟩,
 ⟨some 52,.un .not (.t 51),(some (48,false)),true⟩,
 ⟨some 53,.pick (.t 48) (.k (.c (.bool true))) (.t 52),none,true⟩,
 ⟨some 54,.mv (.t 53),none,true⟩,
 ⟨some 55,.fa 3 (.t 5),(some (54,false)),true⟩,
 ⟨some 56,.ld true 1 (.t 55),(some (54,false)),true⟩,
 ⟨some 57,.call (.k (.fn 27 [])) [(.t 56),(.k (.c (.int .i64 0))),(.k (.c (.int .i64 99999)))],(some (54,false)),true⟩,
 ⟨some 58,.un .not (.t 57),(some (54,false)),true⟩,
 ⟨some 59,.pick (.t 54) (.k (.c (.bool true))) (.t 58),none,true⟩]
abbrev o11_11:List Ins:=[⟨some 2,.mv (.k (.c (.int .i64 80))),none,true⟩]
abbrev v11_12:VC:=(.seq (.ops o11_11) .ret)
abbrev v11_13:VC:=(.cond (.t 59) v11_12 .skip)
abbrev v11_14:VC:=(.seq (.ops o11_10) v11_13)
abbrev v11_15:VC:=(.seq (.ops o11_9) v11_14)
abbrev o11_16:List Ins:=[⟨some 30,.mv (.t 4),none,true⟩,
 ⟨some 31,.bin .add (.t 30) (.k (.c (.int .i64 1))),none,true⟩,
 ⟨some 4,.mv (.t 31),none,true⟩]
abbrev v11_17:VC:=(.seq (.block 1 v11_15) (.ops o11_16))
abbrev v11_18:VC:=(.seq (.seq (.ops o11_7) v11_8) v11_17)
-- K11_1: changed and kept: [4]
abbrev K11_1:List Nat:=[1,3]
abbrev v11_19:VC:=(.loop v11_18)
abbrev v11_20:VC:=(.block 0 v11_19)
abbrev o11_21:List Ins:=[⟨some 6,.mv (.k (.c (.int .i64 0))),none,true⟩]
abbrev o11_22:List Ins:=[⟨some 60,.mv (.t 6),none,true⟩,
 ⟨some 61,.mv (.t 3),none,true⟩,
 ⟨some 62,.bin .leq (.t 60) (.t 61),none,true⟩]
abbrev v11_23:VC:=(.cond (.t 62) .skip (.exit 2))
abbrev o11_24:List Ins:=[⟨some 65,.fa 1 (.t 1),none,true⟩,
 ⟨some 66,.ld true 1 (.t 65),none,true⟩,
 ⟨some 67,.mv (.t 6),none,true⟩,
 ⟨some 68,.ia 1 (.t 66) (.t 67),none,true⟩,
 ⟨some 69,.ld true 1 (.t 68),none,true⟩,
 ⟨some 70,.len (.t 69),none,true⟩,
 ⟨some 71,.mv (.t 3),none,true⟩,
 ⟨some 72,.bin .add (.t 71) (.k (.c (.int .i64 1))),none,true⟩,
 ⟨some 73,.bin .neq (.t 70) (.t 72),none,true⟩,
 ⟨some 74,.mv (.t 73),none,true⟩,
 ⟨some 75,.fa 1 (.t 1),(some (74,false)),true⟩,
 ⟨some 76,.ld true 1 (.t 75),(some (74,false)),true⟩,
 ⟨some 77,.mv (.t 6),(some (74,false)),true⟩,
 ⟨some 78,.ia 1 (.t 76) (.t 77),(some (74,false)),true⟩,
 ⟨some 79,.ld true 1 (.t 78),(some (74,false)),true⟩,
 ⟨some 80,.mv (.t 6),(some (74,false)),true⟩,
 ⟨some 81,.ia 1 (.t 79) (.t 80),(some (74,false)),true⟩,
 ⟨some 82,.ld true 1 (.t 81),(some (74,false)),true⟩,
 ⟨some 83,.bin .neq (.t 82) (.k (.c (.int .i64 0))),(some (74,false)),true⟩,
 ⟨some 84,.pick (.t 74) (.k (.c (.bool true))) (.t 83),none,true⟩]
abbrev o11_25:List Ins:=[⟨some 2,.mv (.k (.c (.int .i64 80))),none,true⟩]
abbrev v11_26:VC:=(.seq (.ops o11_25) .ret)
abbrev v11_27:VC:=(.cond (.t 84) v11_26 .skip)
abbrev o11_28:List Ins:=[⟨some 7,.mv (.k (.c (.int .i64 0))),none,true⟩]
abbrev o11_29:List Ins:=[⟨some 85,.mv (.t 7),none,true⟩,
 ⟨some 86,.mv (.t 3),none,true⟩,
 ⟨some 87,.bin .leq (.t 85) (.t 86),none,true⟩]
abbrev v11_30:VC:=(.cond (.t 87) .skip (.exit 4))
abbrev o11_31:List Ins:=[⟨some 90,.fa 1 (.t 1),none,true⟩,
 ⟨some 91,.ld true 1 (.t 90),none,true⟩,
 ⟨some 92,.mv (.t 6),none,true⟩,
 ⟨some 93,.ia 1 (.t 91) (.t 92),none,true⟩,
 ⟨some 94,.ld true 1 (.t 93),none,true⟩,
 ⟨some 95,.mv (.t 7),none,true⟩,
 ⟨some 96,.ia 1 (.t 94) (.t 95),none,true⟩,
 ⟨some 97,.ld true 1 (.t 96),none,true⟩,
 ⟨some 98,.call (.k (.fn 27 [])) [(.t 97),(.k (.c (.int .i64 0))),(.k (.c (.int .i64 999)))],none,true⟩,
 ⟨some 99,.un .not (.t 98),none,true⟩]
abbrev o11_32:List Ins:=[⟨some 2,.mv (.k (.c (.int .i64 80))),none,true⟩]
abbrev v11_33:VC:=(.seq (.ops o11_32) .ret)
abbrev v11_34:VC:=(.cond (.t 99) v11_33 .skip)
abbrev v11_35:VC:=(.seq (.ops o11_31) v11_34)
abbrev o11_36:List Ins:=[⟨some 88,.mv (.t 7),none,true⟩,
 ⟨some 89,.bin .add (.t 88) (.k (.c (.int .i64 1))),none,true⟩,
 ⟨some 7,.mv (.t 89),none,true⟩]
abbrev v11_37:VC:=(.seq (.block 5 v11_35) (.ops o11_36))
abbrev v11_38:VC:=(.seq (.seq (.ops o11_29) v11_30) v11_37)
-- K11_3: changed and kept: [7]
abbrev K11_3:List Nat:=[1,3,6]
abbrev v11_39:VC:=(.loop v11_38)
abbrev v11_40:VC:=(.block 4 v11_39)
abbrev v11_41:VC:=(.seq (.ops o11_28) v11_40)
abbrev v11_42:VC:=(.seq (.seq (.ops o11_24) v11_27) v11_41)
abbrev o11_43:List Ins:=[⟨some 63,.mv (.t 6),none,true⟩,
 ⟨some 64,.bin .add (.t 63) (.k (.c (.int .i64 1))),none,true⟩,
 ⟨some 6,.mv (.t 64),none,true⟩]
abbrev v11_44:VC:=(.seq (.block 3 v11_42) (.ops o11_43))
abbrev v11_45:VC:=(.seq (.seq (.ops o11_22) v11_23) v11_44)
-- K11_2: changed and kept: [6]
abbrev K11_2:List Nat:=[1,3]
abbrev v11_46:VC:=(.loop v11_45)
abbrev v11_47:VC:=(.block 2 v11_46)
abbrev o11_48:List Ins:=[⟨some 2,.mv (.k (.c (.int .i64 0))),none,true⟩]
abbrev v11_49:VC:=(.seq (.ops o11_48) .ret)
abbrev v11_50:VC:=(.seq (.seq (.ops o11_21) v11_47) v11_49)
abbrev v11_51:VC:=(.seq (.seq (.ops o11_6) v11_20) v11_50)
abbrev v11_52:VC:=(.seq (.seq (.ops o11_2) v11_5) v11_51)
abbrev v11_53:VC:=(.seq (.ops o11_1) v11_52)
def ir11:FC:=⟨1,100,[.t 2],(.seq (.ops o11_0) v11_53)⟩
theorem c35:compM Try.prog [] 35 = some ir35:=by kernel_rfl
theorem c27:compM Try.prog [] 27 = some ir27:=by kernel_rfl
theorem c16:compM Try.prog [] 16 = some ir16:=by kernel_rfl
theorem c11:compM Try.prog [] 11 = some ir11:=by kernel_rfl
attribute [local go_sem] Nat.reduceEqDiff Nat.reduceAdd Nat.reduceMul reduceIte Nat.reduceLeDiff Nat.reduceLT Nat.reduceBEq reduceCtorEq
theorem wi71 (a b c:Int):FSpec Try.prog 35 [iv a,iv b,iv c] (.c (.bool (within a b c))):=by
 refine FSpec_of c35 (Nat.le_refl _) (by decide) fun C hP hN hC hL => ?_; rw [init_st]
 simp only [ir35]
 (refine WV_sop ?_; simp only [go_sem,hP]; (repeat refine qJ ?_))
 (refine WV_sop ?_; simp only [go_sem,hP]; (repeat refine qJ ?_))
 (refine WV_ret ?_; simp only [thenQ,inQ,RetQ,RetOk,resAll,resA]; simp only [go_sem,tupA,AV.port,AV.portL,exists_eq_left']; (first | exact AVle.of rfl | refine AVle.of ?_ | skip))
theorem wi55 (a b c:Int):FSpec Try.prog 27 [iv a,iv b,iv c] (.c (.bool (within a b c))):=by
 refine FSpec_of c27 (Nat.le_refl _) (by decide) fun C hP hN hC hL => ?_; rw [init_st]
 simp only [ir27]
 (refine WV_sop ?_; simp only [go_sem,hP]; (repeat refine qJ ?_))
 refine WV_sop ?_
 simp only [go_sem,hP]
 (refine AS_pu (wi71 _ _ _) ?_; simp only [go_sem,hP]; (repeat refine qJ ?_))
 (refine WV_ret ?_; simp only [thenQ,inQ,RetQ,RetOk,resAll,resA]; simp only [go_sem,tupA,AV.port,AV.portL,exists_eq_left']; (first | exact AVle.of rfl | refine AVle.of ?_ | skip))
theorem in47 (l:List Int) (n:Int):FSpec Try.prog 16 [.c (ints l),iv n] (.c (.bool (decide (n ∈ l)))):=by
 refine FSpec_of c16 (Nat.le_refl _) (by decide) fun C hP hN hC hL => ?_; rw [init_st]
 have hl:l.length ≤ 9223372036854775807:=by simp only [AV.lensL,AV.lens] at hL; exact ints_lens hL.1
 simp only [ir16]
 (refine WV_sop ?_; simp only [go_sem,hP]; (repeat refine qJ ?_))
 refine WV_seq_ (WV_seq_ (WV_ops ?_))
 simp only [go_sem,hP]
 refine WV_block ?_
 refine WV_loopK K16_1 [] (fun k:Nat => k ≤ l.length ∧ n ∉ l.take k) (fun k => l.length - k) (fun k => [(5,iv k)]) (fun _ => []) 0 (by simp) ?_ ?_
 ·exact Sub_au
 ·intro k ⟨hk,hn⟩
  simp only [go_sem]
  refine WV_seq_ (WV_seq_ (WV_ops ?_))
  simp only [go_sem,hP,ints]
  (refine WV_cond rfl (fun h => ?_) (fun h => ?_))
  ·simp only [decide_eq_true_eq,Int.ofNat_lt] at h
   (refine WV_skip ?_; simp only [go_sem])
   refine WV_seq_ (WV_block (WV_seq_ (WV_ops ?_)))
   simp only [go_sem,hP,ints,Int.toNat_natCast,map_getD h,Int.ofNat_lt,h,Int.natCast_nonneg]
   have htk:l.take (k + 1) = l.take k ++ [l[k]]:=List.take_succ_eq_append_getElem h
   refine WV_cond rfl (fun h2 => ?_) (fun h2 => ?_)
   ·(refine WV_sop ?_; simp only [go_sem,hP]; (repeat refine qJ ?_))
    simp only [beq_iff_eq] at h2
    have:n ∈ l:=h2 ▸ List.getElem_mem h
    (refine WV_ret ?_; simp only [thenQ,inQ,RetQ,RetOk,resAll,resA]; simp only [go_sem,tupA,AV.port,AV.portL,exists_eq_left']; (first | exact AVle.of rfl | refine AVle.of ?_ | skip))
    simp [this]
   ·(refine WV_skip ?_; simp only [go_sem])
    (refine WV_op ?_; simp only [go_sem,hP]; (repeat refine qJ ?_))
    simp only [beq_eq_false_iff_ne,ne_eq] at h2
    refine ⟨k + 1,⟨by omega,by rw [htk,List.mem_append]; simp [hn]; exact fun e => h2 e.symm⟩,by omega,?_⟩
    exact Sub_au
  ·simp only [decide_eq_false_iff_not,Int.ofNat_lt] at h
   (refine WV_exit ?_; simp only [go_sem])
   (refine WV_sop ?_; simp only [go_sem,hP]; (repeat refine qJ ?_))
   have:n ∉ l:=by rwa [List.take_of_length_le (by omega)] at hn
   (refine WV_ret ?_; simp only [thenQ,inQ,RetQ,RetOk,resAll,resA]; simp only [go_sem,tupA,AV.port,AV.portL,exists_eq_left']; (first | exact AVle.of rfl | refine AVle.of ?_ | skip))
   simp [this]
set_option maxHeartbeats 4000000 in
theorem check_spec (r:Route):FSpec Try.prog 11 [r.av] (iv (if r.ok then 0 else 80)):=by
 refine FSpec_of c11 (Nat.le_refl _) (by decide) fun C hP hN hC hL => ?_; rw [init_st]
 obtain ⟨h1,h2,h3⟩:=Route.lens hL
 simp only [ir11,Route.av,stopsC,driveC]
 (refine WV_sop ?_; simp only [go_sem,hP]; (repeat refine qJ ?_))
 (refine WV_sop ?_; simp only [go_sem,hP]; (repeat refine qJ ?_))
 ((first | refine WV_seq_ (WV_seq_ (WV_ops ?_)) | refine WV_seq_ (WV_seq_ (WV_dops ?_))); simp only [go_sem,hP]; (repeat refine qJ ?_))
 (refine AG_pu (fun hG => wi55 _ _ _) ?_; simp only [go_sem,hP]; (repeat refine qJ ?_))
 (refine WV_cond rfl (fun h => ?_) (fun h => ?_))
 ·have e:r.ok = false:=by
   have:=g0_eq r.stops.length r.drive.length (within r.start 0 1440) h1
   cases hx:r.ok with
   | false => rfl
   | true =>
    exfalso
    simp only [Route.ok,Bool.and_eq_true,decide_eq_true_eq,beq_iff_eq] at hx
    obtain ⟨⟨⟨⟨a1,a2⟩,a3⟩,a4⟩,a5⟩:=hx
    rw [a3,a2,w64 (by omega) (by omega)] at h
    simp at h
    omega
  (refine WV_sop ?_; simp only [go_sem,hP]; (repeat refine qJ ?_))
  (refine WV_ret ?_; simp only [thenQ,inQ,RetQ,RetOk,resAll,resA]; simp only [go_sem,tupA,AV.port,AV.portL,exists_eq_left']; (first | exact AVle.of rfl | refine AVle.of ?_ | skip))
  rw [e]; rfl
 ·have h0:r.stops.length ≤ 7 ∧ r.drive.length = r.stops.length + 1 ∧ within r.start 0 1440 = true:=by
   simp only [Bool.or_eq_false_iff,decide_eq_false_iff_not,Int.not_lt,bne_eq_false_iff_eq,Bool.not_eq_false'] at h
   obtain ⟨⟨a1,a2⟩,a3⟩:=h
   rw [w64 (by omega) (by omega)] at a2
   exact ⟨by omega,by omega,a3⟩
  obtain ⟨a1,a2,a3⟩:=h0
  (refine WV_skip ?_; simp only [go_sem])
  ((first | refine WV_seq_ (WV_seq_ (WV_ops ?_)) | refine WV_seq_ (WV_seq_ (WV_dops ?_))); simp only [go_sem,hP]; (repeat refine qJ ?_))
  refine WV_block ?_
  (refine WV_loopK K11_1 [] (fun k:Nat => k ≤ r.stops.length ∧ (r.stops.take k).all okStop = true) (fun k => r.stops.length - k) (fun k => [(4,iv k)]) (fun _ => []) 0 ⟨Nat.zero_le _,by simp⟩ ?_ ?_)
  ·exact Sub_au
  ·intro k ⟨hk,hn⟩
   simp only [go_sem]
   ((first | refine WV_seq_ (WV_seq_ (WV_ops ?_)) | refine WV_seq_ (WV_seq_ (WV_dops ?_))); simp only [go_sem,hP]; (repeat refine qJ ?_))
   (refine WV_cond rfl (fun h => ?_) (fun h => ?_))
   ·simp only [decide_eq_true_eq,Int.ofNat_lt] at h
    (refine WV_skip ?_; simp only [go_sem])
    refine WV_seq_ (WV_block ?_)
    (refine WV_sop ?_; simp only [go_sem,hP,Int.toNat_natCast,map_getD h,Int.ofNat_lt,h,Int.natCast_nonneg,Stop.cds]; (repeat refine qJ ?_))
    refine WV_sop ?_
    simp only [go_sem,hP]
    (refine AS_pu (wi55 _ _ _) ?_; simp only [go_sem,hP]; (repeat refine qJ ?_))
    (refine AG_pu (fun hG => wi55 _ _ _) ?_; simp only [go_sem,hP]; (repeat refine qJ ?_))
    (refine AG_pu (fun hG => wi55 _ _ _) ?_; simp only [go_sem,hP]; (repeat refine qJ ?_))
    have e:(!(within r.stops[k].op 0 r.stops[k].cl) || decide (1440 < r.stops[k].cl) || !(within r.stops[k].st 0 1440) || !(within r.stops[k].ca 0 99999)) = !okStop r.stops[k]:=by
     rw [Bool.eq_iff_iff]; simp [okStop,within]
    rw [e]
    (refine WV_cond rfl (fun h => ?_) (fun h => ?_))
    ·(refine WV_sop ?_; simp only [go_sem,hP]; (repeat refine qJ ?_))
     have:r.ok = false:=by
      simp only [Bool.not_eq_true'] at h
      rename_i hlt
      have:r.stops.all okStop = false:=List.all_eq_false.2 ⟨_,List.getElem_mem hlt,by simp [h]⟩
      simp [Route.ok,this]
     (refine WV_ret ?_; simp only [thenQ,inQ,RetQ,RetOk,resAll,resA]; simp only [go_sem,tupA,AV.port,AV.portL,exists_eq_left']; (first | exact AVle.of rfl | refine AVle.of ?_ | skip))
     rw [this]; rfl
    ·(refine WV_skip ?_; simp only [go_sem])
     (refine WV_op ?_; simp only [go_sem,hP]; (repeat refine qJ ?_))
     simp only [Bool.not_eq_false'] at h
     rename_i hlt
     refine ⟨k + 1,⟨by omega,by rw [take_all okStop hlt,hn,h]; rfl⟩,by omega,?_⟩
     exact Sub_au
   ·simp only [decide_eq_false_iff_not,Int.ofNat_lt] at h
    rw [List.take_of_length_le (by omega)] at hn
    have hst:r.stops.all okStop = true:=hn
    clear hn h hk
    (refine WV_exit ?_; simp only [go_sem])
    ((first | refine WV_seq_ (WV_seq_ (WV_ops ?_)) | refine WV_seq_ (WV_seq_ (WV_dops ?_))); simp only [go_sem,hP]; (repeat refine qJ ?_))
    refine WV_block ?_
    (refine WV_loopK K11_2 [] (fun k:Nat => k ≤ r.drive.length ∧ ((r.drive.zipIdx.take k).all fun p => okRow r.drive.length p.2 p.1) = true) (fun k => r.drive.length - k) (fun k => [(6,iv k)]) (fun _ => []) 0 ⟨Nat.zero_le _,by simp⟩ ?_ ?_)
    ·exact Sub_au
    ·intro k ⟨hk,hn⟩
     simp only [go_sem]
     ((first | refine WV_seq_ (WV_seq_ (WV_ops ?_)) | refine WV_seq_ (WV_seq_ (WV_dops ?_))); simp only [go_sem,hP]; (repeat refine qJ ?_))
     (refine WV_cond rfl (fun h => ?_) (fun h => ?_))
     ·simp only [decide_eq_true_eq] at h
      have h:k < r.drive.length:=by omega
      (refine WV_skip ?_; simp only [go_sem])
      have h4:=h3 _ (List.getElem_mem h)
      refine WV_seq_ (WV_block (WV_seq_ (WV_seq_ (WV_ops ?_))))
      simp only [go_sem,hP,ints,Int.toNat_natCast,map_getD h,Int.ofNat_lt,h,Int.natCast_nonneg]
      have e1:IntKind.i64.wrap ((r.stops.length:Int) + 1) = (r.drive.length:Int):=by rw [w64 (by omega) (by omega)]; omega
      rw [e1]
      have hrow:=okRow_eq (l:=r.drive[k]) h
      have hfail:okRow r.drive.length k r.drive[k] = false → r.ok = false:=by
       intro hf
       have:(r.drive.zipIdx.all fun p => okRow r.drive.length p.2 p.1) = false:=List.all_eq_false.2 ⟨(r.drive[k],k),by rw [List.mem_zipIdx_iff_getElem?]; simp [h],by simp [hf]⟩
       simp [Route.ok,this]
      by_cases hlen:r.drive[k].length = r.drive.length
      ·have hk2:k < r.drive[k].length:=by omega
       rw [hlen] at hrow
       have hcell:r.drive[k].getD k 0 = r.drive[k][k]:=by simp [hk2]
       simp only [go_sem,ibne,hlen,map_getD hk2,beq_self_eq_true]
       (repeat refine qJ ?_)
       (refine WV_cond rfl (fun h => ?_) (fun h => ?_))
       ·(refine WV_sop ?_; simp only [go_sem,hP]; (repeat refine qJ ?_))
        have:r.ok = false:=by
         simp only [Bool.false_or,bne_iff_ne,ne_eq] at h
         rename_i hlt
         refine hfail ?_
         rw [hrow,hcell]
         simp [h]
        (refine WV_ret ?_; simp only [thenQ,inQ,RetQ,RetOk,resAll,resA]; simp only [go_sem,tupA,AV.port,AV.portL,exists_eq_left']; (first | exact AVle.of rfl | refine AVle.of ?_ | skip))
        rw [this]; rfl
       ·simp only [Bool.false_or,bne_eq_false_iff_eq] at h
        rename_i hlt
        have hz:=h
        (refine WV_skip ?_; simp only [go_sem])
        (refine WV_sop ?_; simp only [go_sem,hP]; (repeat refine qJ ?_))
        refine WV_block ?_
        (refine WV_loopK K11_3 [] (fun j:Nat => j ≤ r.drive.length ∧ ((r.drive[k].take j).all fun n => within n 0 999) = true) (fun j => r.drive.length - j) (fun j => [(7,iv j)]) (fun _ => []) 0 ⟨Nat.zero_le _,by simp⟩ ?_ ?_)
        ·exact Sub_au
        ·intro j ⟨hj,hjn⟩
         simp only [go_sem]
         ((first | refine WV_seq_ (WV_seq_ (WV_ops ?_)) | refine WV_seq_ (WV_seq_ (WV_dops ?_))); simp only [go_sem,hP]; (repeat refine qJ ?_))
         (refine WV_cond rfl (fun h => ?_) (fun h => ?_))
         ·simp only [decide_eq_true_eq] at h
          have hj2:j < r.drive[k].length:=by omega
          (refine WV_skip ?_; simp only [go_sem])
          refine WV_seq_ (WV_block (WV_seq_ (WV_ops ?_)))
          simp only [go_sem,hP,ints,Int.toNat_natCast,map_getD hlt,map_getD hj2,Int.ofNat_lt,hlt,hj2,Int.natCast_nonneg]
          (refine AS_pu (wi55 _ _ _) ?_; simp only [go_sem,hP]; (repeat refine qJ ?_))
          (refine WV_cond rfl (fun h => ?_) (fun h => ?_))
          ·(refine WV_sop ?_; simp only [go_sem,hP]; (repeat refine qJ ?_))
           have:r.ok = false:=by
            simp only [Bool.not_eq_true'] at h
            refine hfail ?_
            rw [hrow,List.all_eq_false.2 ⟨_,List.getElem_mem hj2,by simp [h]⟩]
            simp
           (refine WV_ret ?_; simp only [thenQ,inQ,RetQ,RetOk,resAll,resA]; simp only [go_sem,tupA,AV.port,AV.portL,exists_eq_left']; (first | exact AVle.of rfl | refine AVle.of ?_ | skip))
           rw [this]; rfl
          ·(refine WV_skip ?_; simp only [go_sem])
           (refine WV_op ?_; simp only [go_sem,hP]; (repeat refine qJ ?_))
           simp only [Bool.not_eq_false'] at h
           refine ⟨j + 1,⟨by omega,by rw [take_all _ hj2,hjn,h]; rfl⟩,by omega,?_⟩
           exact Sub_au
         ·simp only [decide_eq_false_iff_not,Int.not_le] at h
          (refine WV_exit ?_; simp only [go_sem])
          (refine WV_op ?_; simp only [go_sem,hP]; (repeat refine qJ ?_))
          have hrok:okRow r.drive.length k r.drive[k] = true:=by
           rw [hrow,hcell,hz]
           rw [List.take_of_length_le (by omega)] at hjn
           simp [hjn]
          refine ⟨k + 1,⟨by omega,by rw [take_zipIdx _ hlt,hn]; simp [hrok]⟩,by omega,?_⟩
          exact Sub_au
      ·have hne:(r.drive[k].length == r.drive.length) = false:=by simpa using hlen
       by_cases hk2:k < r.drive[k].length
       ·have hgd:(r.drive[k].map fun n => [CD.int .i64 n]).getD k [] = [.int .i64 r.drive[k][k]]:=map_getD hk2
        simp only [go_sem,ibne,hne,hgd]
        (repeat refine qJ ?_)
        refine WV_cond rfl (fun h => ?_) (fun h => ?_)
        ·(refine WV_sop ?_; simp only [go_sem,hP]; (repeat refine qJ ?_))
         have:r.ok = false:=hfail (by rw [hrow,hne]; rfl)
         (refine WV_ret ?_; simp only [thenQ,inQ,RetQ,RetOk,resAll,resA]; simp only [go_sem,tupA,AV.port,AV.portL,exists_eq_left']; (first | exact AVle.of rfl | refine AVle.of ?_ | skip))
         rw [this]; rfl
        ·cases h
       ·have hgd:((r.drive[k].map fun n => [CD.int .i64 n]).getD k []) = []:=by simp [Nat.not_lt.1 hk2]
        simp only [go_sem,ibne,hne,hgd]
        (repeat refine qJ ?_)
        refine WV_cond rfl (fun h => ?_) (fun h => ?_)
        ·(refine WV_sop ?_; simp only [go_sem,hP]; (repeat refine qJ ?_))
         have:r.ok = false:=hfail (by rw [hrow,hne]; rfl)
         (refine WV_ret ?_; simp only [thenQ,inQ,RetQ,RetOk,resAll,resA]; simp only [go_sem,tupA,AV.port,AV.portL,exists_eq_left']; (first | exact AVle.of rfl | refine AVle.of ?_ | skip))
         rw [this]; rfl
        ·cases h
     ·simp only [decide_eq_false_iff_not,Int.not_le] at h
      rw [List.take_of_length_le (by simp; omega)] at hn
      (refine WV_exit ?_; simp only [go_sem])
      (refine WV_sop ?_; simp only [go_sem,hP]; (repeat refine qJ ?_))
      have:r.ok = true:=by
       simp only [Route.ok,Bool.and_eq_true,decide_eq_true_eq,beq_iff_eq]
       exact ⟨⟨⟨⟨a1,a2⟩,a3⟩,hst⟩,hn⟩
      (refine WV_ret ?_; simp only [thenQ,inQ,RetQ,RetOk,resAll,resA]; simp only [go_sem,tupA,AV.port,AV.portL,exists_eq_left']; (first | exact AVle.of rfl | refine AVle.of ?_ | skip))
      rw [this]; rfl
end Go.Proofs.Ytakplakbbidihaa

namespace Go.Proofs.Ytakplakbbidihaa
open Go Go.V
attribute [local go_sem] Nat.reduceEqDiff Nat.reduceAdd Nat.reduceMul reduceIte Nat.reduceLeDiff Nat.reduceLT Nat.reduceBEq reduceCtorEq
end Go.Proofs.Ytakplakbbidihaa

namespace Go.Proofs.Ytakplakbbidihaa
open Go Go.V
attribute [local go_sem] Nat.reduceEqDiff Nat.reduceAdd Nat.reduceMul reduceIte Nat.reduceLeDiff Nat.reduceLT Nat.reduceBEq reduceCtorEq
end Go.Proofs.Ytakplakbbidihaa

namespace Go.Proofs.Ytakplakbbidihaa
open Go Go.V
attribute [local go_sem] Nat.reduceEqDiff Nat.reduceAdd Nat.reduceMul reduceIte Nat.reduceLeDiff Nat.reduceLT Nat.reduceBEq reduceCtorEq
end Go.Proofs.Ytakplakbbidihaa

namespace Go.Proofs.Ytakplakbbidihaa
open Go Go.V
attribute [local go_sem] Nat.reduceEqDiff Nat.reduceAdd Nat.reduceMul reduceIte Nat.reduceLeDiff Nat.reduceLT Nat.reduceBEq reduceCtorEq
end Go.Proofs.Ytakplakbbidihaa

namespace Go.Proofs.Ytakplakbbidihaa
open Go Go.V
attribute [local go_sem] Nat.reduceEqDiff Nat.reduceAdd Nat.reduceMul reduceIte Nat.reduceLeDiff Nat.reduceLT Nat.reduceBEq reduceCtorEq
end Go.Proofs.Ytakplakbbidihaa

namespace Go.Proofs.Ytakplakbbidihaa
open Go Go.V
attribute [local go_sem] Nat.reduceEqDiff Nat.reduceAdd Nat.reduceMul reduceIte Nat.reduceLeDiff Nat.reduceLT Nat.reduceBEq reduceCtorEq
end Go.Proofs.Ytakplakbbidihaa

namespace Go.Proofs.Ytakplakbbidihaa
open Go Go.V
attribute [local go_sem] Nat.reduceEqDiff Nat.reduceAdd Nat.reduceMul reduceIte Nat.reduceLeDiff Nat.reduceLT Nat.reduceBEq reduceCtorEq
end Go.Proofs.Ytakplakbbidihaa

namespace Go.Proofs.Ytakplakbbidihaa
open Go Go.V
attribute [local go_sem] Nat.reduceEqDiff Nat.reduceAdd Nat.reduceMul reduceIte Nat.reduceLeDiff Nat.reduceLT Nat.reduceBEq reduceCtorEq
theorem ints_one (l:List Int):((l.map fun n => [CD.int .i64 n]).all fun e => e.length == 1) = true:=by
 rw [List.all_eq_true]; intro e he; obtain ⟨n,_,rfl⟩:=List.mem_map.1 he; rfl
end Go.Proofs.Ytakplakbbidihaa

namespace Go.Proofs.Ytakplakbbidihaa
open Go Go.V
attribute [local go_sem] Nat.reduceEqDiff Nat.reduceAdd Nat.reduceMul reduceIte Nat.reduceLeDiff Nat.reduceLT Nat.reduceBEq reduceCtorEq
end Go.Proofs.Ytakplakbbidihaa

namespace Go.Proofs.Ytakplakbbidihaa
open Go Go.V
attribute [local go_sem] Nat.reduceEqDiff Nat.reduceAdd Nat.reduceMul reduceIte Nat.reduceLeDiff Nat.reduceLT Nat.reduceBEq reduceCtorEq
end Go.Proofs.Ytakplakbbidihaa

namespace Go.Proofs.Ytakplakbbidihaa
open Go Go.V
attribute [local go_sem] Nat.reduceEqDiff Nat.reduceAdd Nat.reduceMul reduceIte Nat.reduceLeDiff Nat.reduceLT Nat.reduceBEq reduceCtorEq
end Go.Proofs.Ytakplakbbidihaa

namespace Go.Proofs.Ytakplakbbidihaa
open Go Go.V
abbrev o17_0:List Ins:=[⟨some 0,.alloc [(.c (.raw (.slice none 0 0))),(.c (.raw (.slice none 0 0))),(.c (.int .i64 0))],none,true⟩]
abbrev o17_1:List Ins:=[⟨some 1,.bld [(.c (.int .i64 0)),(.c (.int .i64 0)),(.c (.int .i64 0)),(.c (.int .i64 0))] [(0,1,(.k (.c (.int .i64 60)))),(1,1,(.k (.c (.int .i64 100)))),(2,1,(.k (.c (.int .i64 10)))),(3,1,(.k (.c (.int .i64 500))))],none,true⟩,
 ⟨some 2,.bld [(.c (.int .i64 0)),(.c (.int .i64 0)),(.c (.int .i64 0)),(.c (.int .i64 0))] [(1,1,(.k (.c (.int .i64 30)))),(2,1,(.k (.c (.int .i64 5)))),(3,1,(.k (.c (.int .i64 200))))],none,true⟩,
 ⟨some 3,.bld [(.c (.int .i64 0)),(.c (.int .i64 0)),(.c (.int .i64 0)),(.c (.int .i64 0))] [(0,1,(.k (.c (.int .i64 50)))),(1,1,(.k (.c (.int .i64 200)))),(2,1,(.k (.c (.int .i64 20)))),(3,1,(.k (.c (.int .i64 900))))],none,true⟩,
 ⟨some 4,.bsl 42 4 [(.t 1),(.t 2),(.t 3)],none,true⟩,
 ⟨some 5,.bsl 3 1 [(.k (.c (.int .i64 0))),(.k (.c (.int .i64 15))),(.k (.c (.int .i64 30))),(.k (.c (.int .i64 20)))],none,true⟩,
 ⟨some 6,.bsl 3 1 [(.k (.c (.int .i64 15))),(.k (.c (.int .i64 0))),(.k (.c (.int .i64 25))),(.k (.c (.int .i64 10)))],none,true⟩,
 ⟨some 7,.bsl 3 1 [(.k (.c (.int .i64 30))),(.k (.c (.int .i64 25))),(.k (.c (.int .i64 0))),(.k (.c (.int .i64 40)))],none,true⟩,
 ⟨some 8,.bsl 3 1 [(.k (.c (.int .i64 20))),(.k (.c (.int .i64 10))),(.k (.c (.int .i64 40))),(.k (.c (.int .i64 0)))],none,true⟩,
 ⟨some 9,.bsl 31 1 [(.t 5),(.t 6),(.t 7),(.t 8)],none,true⟩,
 ⟨some 10,.bld [(.c (.raw (.slice none 0 0))),(.c (.raw (.slice none 0 0))),(.c (.int .i64 0))] [(0,1,(.t 4)),(1,1,(.t 9))],none,true⟩,
 ⟨none,.st 3 (.t 0) (.t 10),none,true⟩]
abbrev v17_2:VC:=(.seq (.ops o17_1) .ret)
def ir17:FC:=⟨0,11,[.cell 0 false 3],(.seq (.ops o17_0) v17_2)⟩
theorem c17:compM Try.prog [] 17 = some ir17:=by kernel_rfl
attribute [local go_sem] Nat.reduceEqDiff Nat.reduceAdd Nat.reduceMul reduceIte Nat.reduceLeDiff Nat.reduceLT Nat.reduceBEq reduceCtorEq
def exR:Route:=⟨[⟨60,100,10,500⟩,⟨0,30,5,200⟩,⟨50,200,20,900⟩],[[0,15,30,20],[15,0,25,10],[30,25,0,40],[20,10,40,0]],0⟩
theorem example49:FSpec Try.prog 17 [] exR.av:=by
 refine FSpec_of c17 (Nat.le_refl _) (by decide) fun C hP hN hC hL => ?_; rw [init_st]
 simp only [ir17]
 (repeat ((first | refine Va ?_ | refine Vb ?_ | refine Vc ?_ | refine Vd ?_ | refine Ve ?_ | refine Vf ?_); (try simp only [go_sem,hP]); (repeat refine qJ ?_)))
 (refine WV_ret ?_; simp only [thenQ,inQ,RetQ,RetOk,resAll,resA]; simp only [go_sem,tupA,AV.port,AV.portL,exists_eq_left']; (first | exact AVle.of rfl | refine AVle.of ?_ | skip))
end Go.Proofs.Ytakplakbbidihaa

namespace Go.Proofs.Ytakplakbbidihaa
open Go Go.V
abbrev o4_0:List Ins:=[⟨some 1,.box 3 (.t 0),none,true⟩,
 ⟨some 2,.mv (.k (.c (.bool false))),none,true⟩]
abbrev o4_1:List Ins:=[⟨some 4,.fa 0 (.t 1),none,true⟩,
 ⟨some 5,.ld true 1 (.t 4),none,true⟩,
 ⟨some 6,.len (.t 5),none,true⟩,
 ⟨some 7,.bin .gtr (.t 6) (.k (.c (.int .i64 20))),none,true⟩,
 ⟨some 8,.mv (.t 7),none,true⟩,
 ⟨some 9,.fa 1 (.t 1),(some (8,false)),true⟩,
 ⟨some 10,.ld true 1 (.t 9),(some (8,false)),true⟩,
 ⟨some 11,.len (.t 10),(some (8,false)),true⟩,
 ⟨some 12,.bin .gtr (.t 11) (.k (.c (.int .i64 20))),(some (8,false)),true⟩,
 ⟨some 13,.pick (.t 8) (.k (.c (.bool true))) (.t 12),none,true⟩]
abbrev o4_2:List Ins:=[⟨some 2,.mv (.k (.c (.bool true))),none,true⟩]
abbrev v4_3:VC:=(.seq (.ops o4_2) .ret)
abbrev v4_4:VC:=(.cond (.t 13) v4_3 .skip)
abbrev o4_5:List Ins:=[⟨some 3,.mv (.k (.c (.int .i64 0))),none,true⟩]
abbrev o4_6:List Ins:=[⟨some 14,.mv (.t 3),none,true⟩,
 ⟨some 15,.fa 1 (.t 1),none,true⟩,
 ⟨some 16,.ld true 1 (.t 15),none,true⟩,
 ⟨some 17,.len (.t 16),none,true⟩,
 ⟨some 18,.bin .lss (.t 14) (.t 17),none,true⟩]
abbrev v4_7:VC:=(.cond (.t 18) .skip (.exit 0))
abbrev o4_8:List Ins:=[⟨some 21,.fa 1 (.t 1),none,true⟩,
 ⟨some 22,.ld true 1 (.t 21),none,true⟩,
 ⟨some 23,.mv (.t 3),none,true⟩,
 ⟨some 24,.ia 1 (.t 22) (.t 23),none,true⟩,
 ⟨some 25,.ld true 1 (.t 24),none,true⟩,
 ⟨some 26,.len (.t 25),none,true⟩,
 ⟨some 27,.bin .gtr (.t 26) (.k (.c (.int .i64 20))),none,true⟩]
abbrev o4_9:List Ins:=[⟨some 2,.mv (.k (.c (.bool true))),none,true⟩]
abbrev v4_10:VC:=(.seq (.ops o4_9) .ret)
abbrev v4_11:VC:=(.cond (.t 27) v4_10 .skip)
abbrev v4_12:VC:=(.seq (.ops o4_8) v4_11)
abbrev o4_13:List Ins:=[⟨some 19,.mv (.t 3),none,true⟩,
 ⟨some 20,.bin .add (.t 19) (.k (.c (.int .i64 1))),none,true⟩,
 ⟨some 3,.mv (.t 20),none,true⟩]
abbrev v4_14:VC:=(.seq (.block 1 v4_12) (.ops o4_13))
abbrev v4_15:VC:=(.seq (.seq (.ops o4_6) v4_7) v4_14)
-- K4_1: changed and kept: [3]
abbrev K4_1:List Nat:=[1]
abbrev v4_16:VC:=(.loop v4_15)
abbrev v4_17:VC:=(.block 0 v4_16)
abbrev o4_18:List Ins:=[⟨some 28,.fa 0 (.t 1),none,true⟩,
 ⟨some 29,.ld true 1 (.t 28),none,true⟩,
 ⟨some 30,.len (.t 29),none,true⟩,
 ⟨some 31,.bin .gtr (.t 30) (.k (.c (.int .i64 5))),none,true⟩,
 ⟨some 32,.mv (.t 31),none,true⟩,
 ⟨some 33,.ld false 3 (.t 1),(some (32,true)),true⟩,
 ⟨some 34,.call (.k (.fn 11 [])) [(.t 33)],(some (32,true)),true⟩,
 ⟨some 35,.bin .eql (.t 34) (.k (.c (.int .i64 0))),(some (32,true)),true⟩,
 ⟨some 36,.pick (.t 32) (.t 35) (.k (.c (.bool false))),none,true⟩,
 ⟨some 2,.mv (.t 36),none,true⟩]
abbrev v4_19:VC:=(.seq (.ops o4_18) .ret)
abbrev v4_20:VC:=(.seq (.seq (.ops o4_5) v4_17) v4_19)
abbrev v4_21:VC:=(.seq (.seq (.ops o4_1) v4_4) v4_20)
def ir4:FC:=⟨1,37,[.t 2],(.seq (.ops o4_0) v4_21)⟩
theorem c4:compM Try.prog [] 4 = some ir4:=by kernel_rfl
attribute [local go_sem] Nat.reduceEqDiff Nat.reduceAdd Nat.reduceMul reduceIte Nat.reduceLeDiff Nat.reduceLT Nat.reduceBEq reduceCtorEq
def near (r:Route):Bool:=decide (r.stops.length ≤ 20) && decide (r.drive.length ≤ 20) && r.drive.all fun l => decide (l.length ≤ 20)
def farS (r:Route):Bool:=if near r then decide (5 < r.stops.length) && r.ok else true
set_option maxHeartbeats 4000000 in
theorem far19 (r:Route):FSpec Try.prog 4 [r.av] (.c (.bool (farS r))):=by
 refine FSpec_of c4 (Nat.le_refl _) (by decide) fun C hP hN hC hL => ?_; rw [init_st]
 obtain ⟨hl1,hl2,hl3⟩:=Route.lens hL
 simp only [ir4,Route.av]
 (repeat ((first | refine Va ?_ | refine Vb ?_ | refine Vc ?_ | refine Vd ?_ | refine Ve ?_ | refine Vf ?_); (try simp only [go_sem,hP,stopsC,driveC]); (repeat refine qJ ?_)))
 (refine WV_cond rfl (fun h => ?_) (fun h => ?_))
 ·have h:near r = false:=by
   simp only [near]
   simp at h
   by_cases h1:r.stops.length ≤ 20
   ·by_cases h2:r.drive.length ≤ 20
    ·exfalso; omega
    ·simp [h2]
   ·simp [h1]
  (repeat ((first | refine Va ?_ | refine Vb ?_ | refine Vc ?_ | refine Vd ?_ | refine Ve ?_ | refine Vf ?_); (try simp only [go_sem,hP]); (repeat refine qJ ?_)))
  (refine WV_ret ?_; simp only [thenQ,inQ,RetQ,RetOk,resAll,resA]; simp only [go_sem,tupA,AV.port,AV.portL,exists_eq_left']; (first | exact AVle.of rfl | refine AVle.of ?_ | skip))
  simp [farS,h]
 ·have h:r.stops.length ≤ 20 ∧ r.drive.length ≤ 20:=by simp at h; omega
  (repeat ((first | refine Va ?_ | refine Vb ?_ | refine Vc ?_ | refine Vd ?_ | refine Ve ?_ | refine Vf ?_); (try simp only [go_sem,hP]); (repeat refine qJ ?_)))
  refine WV_loopK K4_1 [1] (fun k:Nat => k ≤ r.drive.length ∧ ((r.drive.take k).all fun l => decide (l.length ≤ 20)) = true) (fun k => r.drive.length - k) (fun k => [(3,iv k)]) (fun _ => [(1,.box [.c (stopsC r.stops),.c (driveC r.drive),.c (.int .i64 r.start)])]) 0 ⟨Nat.zero_le _,by simp⟩ ?_ ?_
  ·exact Sub_au
  ·rintro k ⟨hk,ha⟩
   simp only [go_sem]
   (repeat ((first | refine Va ?_ | refine Vb ?_ | refine Vc ?_ | refine Vd ?_ | refine Ve ?_ | refine Vf ?_); (try simp only [go_sem,hP,driveC]); (repeat refine qJ ?_)))
   have h0:=h
   (refine WV_cond rfl (fun h => ?_) (fun h => ?_))
   ·have h:k < r.drive.length:=by simpa using h
    have hw2:=w64 (n:=(k:Int) + 1) (by omega) (by omega)
    (repeat ((first | refine Va ?_ | refine Vb ?_ | refine Vc ?_ | refine Vd ?_ | refine Ve ?_ | refine Vf ?_); (try simp only [go_sem,hP,Int.toNat_natCast,map_getD h,List.length_map,Int.ofNat_lt,h,Int.natCast_nonneg,ints,driveC]); (repeat refine qJ ?_)))
    have hk0:=h
    have hta:=take_all (fun l:List Int => decide (l.length ≤ 20)) hk0
    (refine WV_cond rfl (fun h => ?_) (fun h => ?_))
    ·have h:¬ r.drive[k].length ≤ 20:=by simp at h; omega
     have hn:near r = false:=by
      simp only [near]
      have:(r.drive.all fun l => decide (l.length ≤ 20)) = false:=List.all_eq_false.2 ⟨_,List.getElem_mem hk0,by simpa using h⟩
      rw [this]; simp
     (repeat ((first | refine Va ?_ | refine Vb ?_ | refine Vc ?_ | refine Vd ?_ | refine Ve ?_ | refine Vf ?_); (try simp only [go_sem,hP]); (repeat refine qJ ?_)))
     (refine WV_ret ?_; simp only [thenQ,inQ,RetQ,RetOk,resAll,resA]; simp only [go_sem,tupA,AV.port,AV.portL,exists_eq_left']; (first | exact AVle.of rfl | refine AVle.of ?_ | skip))
     simp [farS,hn]
    ·have h:r.drive[k].length ≤ 20:=by simp at h; omega
     (repeat ((first | refine Va ?_ | refine Vb ?_ | refine Vc ?_ | refine Vd ?_ | refine Ve ?_ | refine Vf ?_); (try simp only [go_sem,hP,hw2]); (repeat refine qJ ?_)))
     refine ⟨k + 1,⟨by omega,by rw [hta,ha]; simpa using h⟩,by omega,?_⟩
     exact Sub_au
   ·have h:k = r.drive.length:=by simp at h; omega
    subst h
    rw [List.take_length] at ha
    have hn:near r = true:=by simp [near,h0,ha]
    have e:farS r = (decide (5 < r.stops.length) && r.ok):=by simp [farS,hn]
    rw [e]
    (repeat ((first | refine Va ?_ | refine Vb ?_ | refine Vc ?_ | refine Vd ?_ | refine Ve ?_ | refine Vf ?_); (try simp only [go_sem,hP,stopsC]); (repeat refine qJ ?_)))
    (refine AG_pu (fun hG => check_spec r) ?_; simp only [go_sem,hP,Route.av]; (repeat refine qJ ?_); (repeat ((first | refine Va ?_ | refine Vb ?_ | refine Vc ?_ | refine Vd ?_ | refine Ve ?_ | refine Vf ?_); (try simp only [go_sem,hP,Route.av]); (repeat refine qJ ?_))))
    by_cases hok:r.ok = true
    ·simp only [hok,if_true,beq_self_eq_true]
     (repeat ((first | refine Va ?_ | refine Vb ?_ | refine Vc ?_ | refine Vd ?_ | refine Ve ?_ | refine Vf ?_); (try simp only [go_sem,hP]); (repeat refine qJ ?_)))
     (try refine ⟨fun h => by simpa using h,?_⟩)
     (repeat ((first | refine Va ?_ | refine Vb ?_ | refine Vc ?_ | refine Vd ?_ | refine Ve ?_ | refine Vf ?_); (try simp only [go_sem,hP]); (repeat refine qJ ?_)))
     (refine WV_ret ?_; simp only [thenQ,inQ,RetQ,RetOk,resAll,resA]; simp only [go_sem,tupA,AV.port,AV.portL,exists_eq_left']; (first | exact AVle.of rfl | refine AVle.of ?_ | skip))
     simp only [Bool.and_true,AV.c.injEq,CD.bool.injEq,decide_eq_decide]
     omega
    ·have hok:r.ok = false:=by simpa using hok
     simp only [hok,Bool.false_eq_true,if_false]
     (try refine ⟨fun h => by simpa using h,?_⟩)
     (repeat ((first | refine Va ?_ | refine Vb ?_ | refine Vc ?_ | refine Vd ?_ | refine Ve ?_ | refine Vf ?_); (try simp only [go_sem,hP]); (repeat refine qJ ?_)))
     (refine WV_ret ?_; simp only [thenQ,inQ,RetQ,RetOk,resAll,resA]; simp only [go_sem,tupA,AV.port,AV.portL,exists_eq_left']; (first | exact AVle.of rfl | refine AVle.of ?_ | skip))
     simp
end Go.Proofs.Ytakplakbbidihaa

namespace Go.Proofs.Ytakplakbbidihaa
open Go Go.V
abbrev o6_0:List Ins:=[⟨some 1,.box 3 (.t 0),none,true⟩,
 ⟨some 2,.alloc [(.c (.raw (.slice none 0 0))),(.c (.raw (.slice none 0 0))),(.c (.int .i64 0))],none,true⟩]
abbrev o6_1:List Ins:=[⟨some 5,.ld false 3 (.t 1),none,true⟩,
 ⟨some 3,.alloc [(.c (.raw (.slice none 0 0))),(.c (.raw (.slice none 0 0))),(.c (.int .i64 0))],none,true⟩,
 ⟨none,.st 3 (.t 3) (.t 5),none,true⟩]
abbrev o6_2:List Ins:=[⟨some 6,.bsl 42 4 [],none,true⟩,
 ⟨some 7,.fa 0 (.t 1),none,true⟩,
 ⟨some 8,.ld true 1 (.t 7),none,true⟩,
 ⟨some 9,.app 42 4 32 (.t 6) (.t 8),none,true⟩,
 ⟨some 10,.fa 0 (.t 3),none,true⟩,
 ⟨none,.st 1 (.t 10) (.t 9),none,true⟩,
 ⟨some 11,.fa 1 (.t 3),none,true⟩,
 ⟨none,.st 1 (.t 11) (.k (.c (.raw (.slice none 0 0)))),none,true⟩]
abbrev o6_3:List Ins:=[⟨some 4,.mv (.k (.c (.int .i64 0))),none,true⟩]
abbrev o6_4:List Ins:=[⟨some 12,.mv (.t 4),none,true⟩,
 ⟨some 13,.fa 1 (.t 1),none,true⟩,
 ⟨some 14,.ld true 1 (.t 13),none,true⟩,
 ⟨some 15,.len (.t 14),none,true⟩,
 ⟨some 16,.bin .lss (.t 12) (.t 15),none,true⟩]
abbrev v6_5:VC:=(.cond (.t 16) .skip (.exit 0))
abbrev o6_6:List Ins:=[⟨some 19,.fa 1 (.t 3),none,false⟩,
 ⟨some 20,.ld true 1 (.t 19),none,false⟩,
 ⟨some 21,.bsl 3 1 [],none,false⟩,
 ⟨some 22,.fa 1 (.t 1),none,false⟩,
 ⟨some 23,.ld true 1 (.t 22),none,false⟩,
 ⟨some 24,.mv (.t 4),none,false⟩,
 ⟨some 25,.ia 1 (.t 23) (.t 24),none,false⟩,
 ⟨some 26,.ld true 1 (.t 25),none,false⟩,
 ⟨some 27,.app 3 1 8 (.t 21) (.t 26),none,false⟩,
 ⟨some 28,.bsl 31 1 [(.t 27)],none,false⟩,
 ⟨some 29,.app 31 1 24 (.t 20) (.t 28),none,true⟩,
 ⟨some 30,.fa 1 (.t 3),none,true⟩,
 ⟨none,.st 1 (.t 30) (.t 29),none,true⟩]
abbrev o6_7:List Ins:=[⟨some 17,.mv (.t 4),none,true⟩,
 ⟨some 18,.bin .add (.t 17) (.k (.c (.int .i64 1))),none,true⟩,
 ⟨some 4,.mv (.t 18),none,true⟩]
abbrev v6_8:VC:=(.seq (.block 1 (.dops o6_6)) (.ops o6_7))
abbrev v6_9:VC:=(.seq (.seq (.ops o6_4) v6_5) v6_8)
-- K6_1: changed and kept: [4]
abbrev K6_1:List Nat:=[1,2,3]
abbrev v6_10:VC:=(.loop v6_9)
abbrev v6_11:VC:=(.block 0 v6_10)
abbrev o6_12:List Ins:=[⟨some 31,.ld false 3 (.t 3),none,true⟩,
 ⟨none,.st 3 (.t 2) (.t 31),none,true⟩]
abbrev v6_13:VC:=(.seq (.ops o6_12) .ret)
abbrev v6_14:VC:=(.seq (.seq (.ops o6_3) v6_11) v6_13)
abbrev v6_15:VC:=(.seq (.ops o6_2) v6_14)
abbrev v6_16:VC:=(.seq (.ops o6_1) v6_15)
def ir6:FC:=⟨1,32,[.cell 2 false 3],(.seq (.ops o6_0) v6_16)⟩
theorem c6:compM Try.prog [] 6 = some ir6:=by kernel_rfl
attribute [local go_sem] Nat.reduceEqDiff Nat.reduceAdd Nat.reduceMul reduceIte Nat.reduceLeDiff Nat.reduceLT Nat.reduceBEq reduceCtorEq
theorem stops_four (l:List Stop):((l.map Stop.cds).all fun e => e.length == 4) = true:=by
 rw [List.all_eq_true]; intro e he; obtain ⟨n,_,rfl⟩:=List.mem_map.1 he; rfl
theorem intss_one (l:List (List Int)):((l.map fun x => [ints x]).all fun e => e.length == 1) = true:=by
 rw [List.all_eq_true]; intro e he; obtain ⟨n,_,rfl⟩:=List.mem_map.1 he; rfl
theorem near_eq {r:Route} (h:near r = true):r.stops.length ≤ 20 ∧ r.drive.length ≤ 20 ∧ ∀ l ∈ r.drive,l.length ≤ 20:=by
 simp only [near,Bool.and_eq_true,decide_eq_true_eq,List.all_eq_true] at h
 exact ⟨h.1.1,h.1.2,h.2⟩
set_option maxHeartbeats 4000000 in
theorem copy17 (r:Route) (hnear:near r = true):FSpec Try.prog 6 [r.av] r.av:=by
 obtain ⟨hn1,hn2,hn3⟩:=near_eq hnear
 have hmax:maxLen = 9223372036854775807:=rfl
 refine FSpec_of c6 (Nat.le_refl _) (by decide) fun C hP hN hC hL => ?_; rw [init_st]
 simp only [ir6,Route.av]
 (repeat ((first | refine Va ?_ | refine Vb ?_ | refine Vc ?_ | refine Vd ?_ | refine Ve ?_ | refine Vf ?_); (try simp only [go_sem,hP,stopsC,stops_four]); (repeat refine qJ ?_)))
 refine WV_freeze 1 (ds:=r.cds) rfl rfl ?_
 simp only [go_sem]
 refine WV_nilbox 3 1 29 31 1 (by decide) (by decide) (by decide) rfl rfl rfl ?_
 simp only [go_sem]
 refine WV_loopK K6_1 [2,3,6,9,29] (fun k:Nat => k ≤ r.drive.length) (fun k => r.drive.length - k) (fun k => [(4,iv k)])
  (fun k => [(29,.grow 31 1 ((r.drive.take k).map fun x => [ints x])),(3,.box [.gr 9,.gr 29,iv r.start]),(9,.grow 42 4 (r.stops.map Stop.cds)),(2,.box [.c (.raw (.slice none 0 0)),.c (.raw (.slice none 0 0)),iv 0])]) 0 (Nat.zero_le _) ?_ ?_
 ·exact Sub_au
 ·intro k hk
  have htl:(r.drive.take k).length ≤ 20:=by rw [List.length_take]; omega
  simp only [go_sem]
  (repeat ((first | refine Va ?_ | refine Vb ?_ | refine Vc ?_ | refine Vd ?_ | refine Ve ?_ | refine Vf ?_); (try simp only [go_sem,hP,Route.cds,driveC]); (repeat refine qJ ?_)))
  (refine WV_cond rfl (fun h => ?_) (fun h => ?_))
  ·have h:k < r.drive.length:=by simpa using h
   have hrow:=hn3 _ (List.getElem_mem h)
   have hw2:=w64 (n:=(k:Int) + 1) (by omega) (by omega)
   (repeat ((first | refine Va ?_ | refine Vb ?_ | refine Vc ?_ | refine Vd ?_ | refine Ve ?_ | refine Vf ?_); (try simp only [go_sem,hP,Route.cds,driveC,Int.toNat_natCast,map_getD h,List.length_map,Int.ofNat_lt,h,Int.natCast_nonneg,ints,ints_one,intss_one,hw2]); (repeat refine qJ ?_)))
   refine ⟨k + 1,by omega,by omega,?_⟩
   rw [List.take_succ_eq_append_getElem (by assumption),List.map_append]
   (refine Sub_of (by simp only [go_sem]; ((repeat' (first | exact EnvLe_e0 _ _ | refine EnvLe_upd ?_ ?_)) <;> ((try simp only [upd_app,e0_app,o0_app,Nat.reduceEqDiff,reduceIte]); first | exact AWk.refl _ _ | exact AWk.int (by omega) | exact AWk.int (by rw [w64 (by omega) (by omega)]; omega) | exact AWk.grow rfl | exact AWk.nil _ | exact AWk.of (by simp [ints])))) (by simp only [go_sem]; exact ObjLe_au))
  ·have h:k = r.drive.length:=by simp at h; omega
   subst h
   rw [List.take_length]
   (repeat ((first | refine Va ?_ | refine Vb ?_ | refine Vc ?_ | refine Vd ?_ | refine Ve ?_ | refine Vf ?_); (try simp only [go_sem,hP]); (repeat refine qJ ?_)))
   (refine WV_ret ?_; simp only [thenQ,inQ,RetQ,RetOk,resAll,resA]; simp only [go_sem,tupA,AV.port,AV.portL,exists_eq_left']; (first | exact AVle.of rfl | refine AVle.of ?_ | skip))
end Go.Proofs.Ytakplakbbidihaa

namespace Go.Proofs.Ytakplakbbidihaa
open Go Go.V
namespace W
abbrev o6_0:List Ins:=[⟨some 1,.box 3 (.t 0),none,true⟩,
 ⟨some 2,.alloc [(.c (.raw (.slice none 0 0))),(.c (.raw (.slice none 0 0))),(.c (.int .i64 0))],none,true⟩]
abbrev o6_1:List Ins:=[⟨some 5,.ld false 3 (.t 1),none,true⟩,
 ⟨some 3,.alloc [(.c (.raw (.slice none 0 0))),(.c (.raw (.slice none 0 0))),(.c (.int .i64 0))],none,true⟩,
 ⟨none,.st 3 (.t 3) (.t 5),none,true⟩]
abbrev o6_2:List Ins:=[⟨some 6,.bsl 42 4 [],none,true⟩,
 ⟨some 7,.fa 0 (.t 1),none,true⟩,
 ⟨some 8,.ld true 1 (.t 7),none,true⟩,
 ⟨some 9,.appv 42 4 32 (.t 6) (.t 8),none,true⟩,
 ⟨some 10,.fa 0 (.t 3),none,true⟩,
 ⟨none,.st 1 (.t 10) (.t 9),none,true⟩,
 ⟨some 11,.fa 1 (.t 3),none,true⟩,
 ⟨none,.st 1 (.t 11) (.k (.c (.raw (.slice none 0 0)))),none,true⟩]
abbrev o6_3:List Ins:=[⟨some 4,.mv (.k (.c (.int .i64 0))),none,true⟩]
abbrev o6_4:List Ins:=[⟨some 12,.mv (.t 4),none,true⟩,
 ⟨some 13,.fa 1 (.t 1),none,true⟩,
 ⟨some 14,.ld true 1 (.t 13),none,true⟩,
 ⟨some 15,.len (.t 14),none,true⟩,
 ⟨some 16,.bin .lss (.t 12) (.t 15),none,true⟩]
abbrev v6_5:VC:=(.cond (.t 16) .skip (.exit 0))
abbrev t6_6:OT:=(.cons ⟨some 21,.bsl 3 1 [],none,false⟩
 (.cons ⟨some 22,.fa 1 (.t 1),none,false⟩
 (.cons ⟨some 23,.ld true 1 (.t 22),none,false⟩
 (.cons ⟨some 24,.mv (.t 4),none,false⟩
 (.cons ⟨some 25,.ia 1 (.t 23) (.t 24),none,false⟩
 (.cons ⟨some 26,.ld true 1 (.t 25),none,false⟩
 (.br [(.cons ⟨some 19,.fa 1 (.t 3),none,false⟩
  (.br [(.cons ⟨some 20,.ld true 1 (.t 19),none,false⟩
   (.cons ⟨some 27,.appv 3 1 8 (.t 21) (.t 26),none,true⟩
   (.cons ⟨some 28,.bslv 31 1 [(.t 27)],none,true⟩
   (.cons ⟨some 29,.appv 31 1 24 (.t 20) (.t 28),none,true⟩
   (.cons ⟨some 30,.fa 1 (.t 3),none,true⟩
   (.cons ⟨none,.st 1 (.t 30) (.t 29),none,true⟩
   .nil)))))),(.cons ⟨some 27,.appv 3 1 8 (.t 21) (.t 26),none,true⟩
   (.br [(.cons ⟨some 20,.ld true 1 (.t 19),none,false⟩
    (.cons ⟨some 28,.bslv 31 1 [(.t 27)],none,true⟩
    (.cons ⟨some 29,.appv 31 1 24 (.t 20) (.t 28),none,true⟩
    (.cons ⟨some 30,.fa 1 (.t 3),none,true⟩
    (.cons ⟨none,.st 1 (.t 30) (.t 29),none,true⟩
    .nil))))),(.cons ⟨some 28,.bslv 31 1 [(.t 27)],none,true⟩
    (.cons ⟨some 20,.ld true 1 (.t 19),none,false⟩
    (.cons ⟨some 29,.appv 31 1 24 (.t 20) (.t 28),none,true⟩
    (.cons ⟨some 30,.fa 1 (.t 3),none,true⟩
    (.cons ⟨none,.st 1 (.t 30) (.t 29),none,true⟩
    .nil)))))]))])),(.cons ⟨some 27,.appv 3 1 8 (.t 21) (.t 26),none,true⟩
  (.br [(.cons ⟨some 19,.fa 1 (.t 3),none,false⟩
   (.br [(.cons ⟨some 20,.ld true 1 (.t 19),none,false⟩
    (.cons ⟨some 28,.bslv 31 1 [(.t 27)],none,true⟩
    (.cons ⟨some 29,.appv 31 1 24 (.t 20) (.t 28),none,true⟩
    (.cons ⟨some 30,.fa 1 (.t 3),none,true⟩
    (.cons ⟨none,.st 1 (.t 30) (.t 29),none,true⟩
    .nil))))),(.cons ⟨some 28,.bslv 31 1 [(.t 27)],none,true⟩
    (.cons ⟨some 20,.ld true 1 (.t 19),none,false⟩
    (.cons ⟨some 29,.appv 31 1 24 (.t 20) (.t 28),none,true⟩
    (.cons ⟨some 30,.fa 1 (.t 3),none,true⟩
    (.cons ⟨none,.st 1 (.t 30) (.t 29),none,true⟩
    .nil)))))])),(.cons ⟨some 28,.bslv 31 1 [(.t 27)],none,true⟩
   (.cons ⟨some 19,.fa 1 (.t 3),none,false⟩
   (.cons ⟨some 20,.ld true 1 (.t 19),none,false⟩
   (.cons ⟨some 29,.appv 31 1 24 (.t 20) (.t 28),none,true⟩
   (.cons ⟨some 30,.fa 1 (.t 3),none,true⟩
   (.cons ⟨none,.st 1 (.t 30) (.t 29),none,true⟩
   .nil))))))]))])))))))
abbrev o6_7:List Ins:=[⟨some 17,.mv (.t 4),none,true⟩,
 ⟨some 18,.bin .add (.t 17) (.k (.c (.int .i64 1))),none,true⟩,
 ⟨some 4,.mv (.t 18),none,true⟩]
abbrev v6_8:VC:=(.seq (.block 1 (.drw t6_6)) (.ops o6_7))
abbrev v6_9:VC:=(.seq (.seq (.ops o6_4) v6_5) v6_8)
-- K6_1: changed and kept: [4]
abbrev K6_1:List Nat:=[1,2,3]
abbrev v6_10:VC:=(.loop v6_9)
abbrev v6_11:VC:=(.block 0 v6_10)
abbrev o6_12:List Ins:=[⟨some 31,.ld false 3 (.t 3),none,true⟩,
 ⟨none,.st 3 (.t 2) (.t 31),none,true⟩]
abbrev v6_13:VC:=(.seq (.ops o6_12) .ret)
abbrev v6_14:VC:=(.seq (.seq (.ops o6_3) v6_11) v6_13)
abbrev v6_15:VC:=(.seq (.ops o6_2) v6_14)
abbrev v6_16:VC:=(.seq (.ops o6_1) v6_15)
def ir6:FC:=⟨1,32,[.cell 2 false 3],(.seq (.ops o6_0) v6_16)⟩
theorem c6:compM Try.prog [100009,100027,100028,100029] 6 = some ir6:=by kernel_rfl
end W
namespace W0
abbrev o6_0:List Ins:=[⟨some 1,.box 3 (.t 0),none,true⟩,
 ⟨some 2,.alloc [(.c (.raw (.slice none 0 0))),(.c (.raw (.slice none 0 0))),(.c (.int .i64 0))],none,true⟩]
abbrev o6_1:List Ins:=[⟨some 5,.ld false 3 (.t 1),none,true⟩,
 ⟨some 3,.alloc [(.c (.raw (.slice none 0 0))),(.c (.raw (.slice none 0 0))),(.c (.int .i64 0))],none,true⟩,
 ⟨none,.st 3 (.t 3) (.t 5),none,true⟩]
abbrev o6_2:List Ins:=[⟨some 6,.bsl 42 4 [],none,true⟩,
 ⟨some 7,.fa 0 (.t 1),none,true⟩,
 ⟨some 8,.ld true 1 (.t 7),none,true⟩,
 ⟨some 9,.app 42 4 32 (.t 6) (.t 8),none,true⟩,
 ⟨some 10,.fa 0 (.t 3),none,true⟩,
 ⟨none,.st 1 (.t 10) (.t 9),none,true⟩,
 ⟨some 11,.fa 1 (.t 3),none,true⟩,
 ⟨none,.st 1 (.t 11) (.k (.c (.raw (.slice none 0 0)))),none,true⟩]
abbrev o6_3:List Ins:=[⟨some 4,.mv (.k (.c (.int .i64 0))),none,true⟩]
abbrev o6_4:List Ins:=[⟨some 12,.mv (.t 4),none,true⟩,
 ⟨some 13,.fa 1 (.t 1),none,true⟩,
 ⟨some 14,.ld true 1 (.t 13),none,true⟩,
 ⟨some 15,.len (.t 14),none,true⟩,
 ⟨some 16,.bin .lss (.t 12) (.t 15),none,true⟩]
abbrev v6_5:VC:=(.cond (.t 16) .skip (.exit 0))
abbrev t6_6:OT:=(.cons ⟨some 21,.bsl 3 1 [],none,false⟩
 (.cons ⟨some 22,.fa 1 (.t 1),none,false⟩
 (.cons ⟨some 23,.ld true 1 (.t 22),none,false⟩
 (.cons ⟨some 24,.mv (.t 4),none,false⟩
 (.cons ⟨some 25,.ia 1 (.t 23) (.t 24),none,false⟩
 (.cons ⟨some 26,.ld true 1 (.t 25),none,false⟩
 (.br [(.cons ⟨some 19,.fa 1 (.t 3),none,false⟩
  (.br [(.cons ⟨some 20,.ld true 1 (.t 19),none,false⟩
   (.cons ⟨some 27,.appv 3 1 8 (.t 21) (.t 26),none,true⟩
   (.cons ⟨some 28,.bslv 31 1 [(.t 27)],none,true⟩
   (.cons ⟨some 29,.appv 31 1 24 (.t 20) (.t 28),none,true⟩
   (.cons ⟨some 30,.fa 1 (.t 3),none,true⟩
   (.cons ⟨none,.st 1 (.t 30) (.t 29),none,true⟩
   .nil)))))),(.cons ⟨some 27,.appv 3 1 8 (.t 21) (.t 26),none,true⟩
   (.br [(.cons ⟨some 20,.ld true 1 (.t 19),none,false⟩
    (.cons ⟨some 28,.bslv 31 1 [(.t 27)],none,true⟩
    (.cons ⟨some 29,.appv 31 1 24 (.t 20) (.t 28),none,true⟩
    (.cons ⟨some 30,.fa 1 (.t 3),none,true⟩
    (.cons ⟨none,.st 1 (.t 30) (.t 29),none,true⟩
    .nil))))),(.cons ⟨some 28,.bslv 31 1 [(.t 27)],none,true⟩
    (.cons ⟨some 20,.ld true 1 (.t 19),none,false⟩
    (.cons ⟨some 29,.appv 31 1 24 (.t 20) (.t 28),none,true⟩
    (.cons ⟨some 30,.fa 1 (.t 3),none,true⟩
    (.cons ⟨none,.st 1 (.t 30) (.t 29),none,true⟩
    .nil)))))]))])),(.cons ⟨some 27,.appv 3 1 8 (.t 21) (.t 26),none,true⟩
  (.br [(.cons ⟨some 19,.fa 1 (.t 3),none,false⟩
   (.br [(.cons ⟨some 20,.ld true 1 (.t 19),none,false⟩
    (.cons ⟨some 28,.bslv 31 1 [(.t 27)],none,true⟩
    (.cons ⟨some 29,.appv 31 1 24 (.t 20) (.t 28),none,true⟩
    (.cons ⟨some 30,.fa 1 (.t 3),none,true⟩
    (.cons ⟨none,.st 1 (.t 30) (.t 29),none,true⟩
    .nil))))),(.cons ⟨some 28,.bslv 31 1 [(.t 27)],none,true⟩
    (.cons ⟨some 20,.ld true 1 (.t 19),none,false⟩
    (.cons ⟨some 29,.appv 31 1 24 (.t 20) (.t 28),none,true⟩
    (.cons ⟨some 30,.fa 1 (.t 3),none,true⟩
    (.cons ⟨none,.st 1 (.t 30) (.t 29),none,true⟩
    .nil)))))])),(.cons ⟨some 28,.bslv 31 1 [(.t 27)],none,true⟩
   (.cons ⟨some 19,.fa 1 (.t 3),none,false⟩
   (.cons ⟨some 20,.ld true 1 (.t 19),none,false⟩
   (.cons ⟨some 29,.appv 31 1 24 (.t 20) (.t 28),none,true⟩
   (.cons ⟨some 30,.fa 1 (.t 3),none,true⟩
   (.cons ⟨none,.st 1 (.t 30) (.t 29),none,true⟩
   .nil))))))]))])))))))
abbrev o6_7:List Ins:=[⟨some 17,.mv (.t 4),none,true⟩,
 ⟨some 18,.bin .add (.t 17) (.k (.c (.int .i64 1))),none,true⟩,
 ⟨some 4,.mv (.t 18),none,true⟩]
abbrev v6_8:VC:=(.seq (.block 1 (.drw t6_6)) (.ops o6_7))
abbrev v6_9:VC:=(.seq (.seq (.ops o6_4) v6_5) v6_8)
-- K6_1: changed and kept: [4]
abbrev K6_1:List Nat:=[1,2,3]
abbrev v6_10:VC:=(.loop v6_9)
abbrev v6_11:VC:=(.block 0 v6_10)
abbrev o6_12:List Ins:=[⟨some 31,.ld false 3 (.t 3),none,true⟩,
 ⟨none,.st 3 (.t 2) (.t 31),none,true⟩]
abbrev v6_13:VC:=(.seq (.ops o6_12) .ret)
abbrev v6_14:VC:=(.seq (.seq (.ops o6_3) v6_11) v6_13)
abbrev v6_15:VC:=(.seq (.ops o6_2) v6_14)
abbrev v6_16:VC:=(.seq (.ops o6_1) v6_15)
def ir6:FC:=⟨1,32,[.cell 2 false 3],(.seq (.ops o6_0) v6_16)⟩
theorem c6:compM Try.prog [100027,100028,100029] 6 = some ir6:=by kernel_rfl
end W0
attribute [local go_sem] Nat.reduceEqDiff Nat.reduceAdd Nat.reduceMul reduceIte Nat.reduceLeDiff Nat.reduceLT Nat.reduceBEq reduceCtorEq
def icds (n:Int):List CD:=[.int .i64 n]
theorem stops_cells (l:List Stop) (j:Nat):List.map AV.c (List.map Stop.cds l).flatten ++ List.replicate j AV.non = cellsG Stop.cds l j:=rfl
end Go.Proofs.Ytakplakbbidihaa

namespace Go.Proofs.Ytakplakbbidihaa
open Go Go.V
abbrev o15_0:List Ins:=[⟨some 1,.box 3 (.t 0),none,true⟩,
 ⟨some 2,.mv (.k (.c (.raw (.slice none 0 0)))),none,true⟩,
 ⟨some 3,.mv (.k (.c (.int .i64 0))),none,true⟩]
abbrev o15_1:List Ins:=[⟨some 9,.ld false 3 (.t 1),none,true⟩,
 ⟨some 10,.call (.k (.fn 30 [])) [(.t 9)],none,true⟩,
 ⟨some 4,.mv (.t 10),none,true⟩]
abbrev o15_2:List Ins:=[⟨some 11,.mv (.t 4),none,true⟩,
 ⟨some 12,.bin .neq (.t 11) (.k (.c (.int .i64 0))),none,true⟩]
abbrev o15_3:List Ins:=[⟨some 13,.mv (.t 4),none,true⟩,
 ⟨some 2,.mv (.k (.c (.raw (.slice none 0 0)))),none,true⟩,
 ⟨some 3,.mv (.t 13),none,true⟩]
abbrev v15_4:VC:=(.seq (.ops o15_3) .ret)
abbrev v15_5:VC:=(.cond (.t 12) v15_4 .skip)
abbrev v15_6:VC:=(.seq (.ops o15_2) v15_5)
abbrev o15_7:List Ins:=[⟨some 5,.alloc [(.c (.bool false)),(.c (.bool false)),(.c (.bool false)),(.c (.bool false)),(.c (.bool false)),(.c (.bool false)),(.c (.bool false))],none,true⟩]
abbrev o15_8:List Ins:=[⟨some 14,.call (.k (.fn 31 [])) [(.t 1)],none,true⟩]
abbrev o15_9:List Ins:=[⟨some 17,.mv (.t 6),none,true⟩,
 ⟨some 18,.len (.t 17),none,true⟩,
 ⟨some 19,.bin .gtr (.t 18) (.k (.c (.int .i64 0))),none,true⟩]
abbrev o15_10:List Ins:=[⟨some 20,.mv (.t 6),none,true⟩,
 ⟨some 21,.mv (.t 6),none,true⟩,
 ⟨some 22,.len (.t 21),none,true⟩,
 ⟨some 23,.bin .sub (.t 22) (.k (.c (.int .i64 1))),none,true⟩,
 ⟨some 24,.ia 1 (.t 20) (.t 23),none,true⟩,
 ⟨some 25,.ld true 1 (.t 24),none,true⟩,
 ⟨some 26,.iap 7 1 (.t 5) (.t 25),none,true⟩,
 ⟨none,.st 1 (.t 26) (.k (.c (.bool true))),none,true⟩]
abbrev v15_11:VC:=(.cond (.t 19) (.ops o15_10) .skip)
abbrev v15_12:VC:=(.seq (.ops o15_9) v15_11)
abbrev v15_13:VC:=(.block 1 v15_12)
abbrev o15_14:List Ins:=[⟨some 6,.mv (.t 15),none,true⟩]
abbrev K15_1:List Nat:=[1,5,14]
abbrev v15_15:VC:=(.rng (.t 14) [15,16] (.ops o15_14) v15_13)
abbrev v15_16:VC:=(.block 0 v15_15)
abbrev o15_17:List Ins:=[⟨some 7,.mv (.k (.c (.raw (.slice none 0 0)))),none,true⟩]
abbrev o15_18:List Ins:=[⟨some 27,.fa 0 (.t 1),none,true⟩,
 ⟨some 28,.ld true 1 (.t 27),none,true⟩,
 ⟨some 29,.len (.t 28),none,true⟩,
 ⟨some 30,.mv (.k (.c (.int .i64 0))),none,true⟩]
abbrev o15_19:List Ins:=[⟨some 31,.bin .lss (.t 30) (.t 29),none,true⟩]
abbrev o15_20:List Ins:=[⟨some 32,.mv (.t 30),none,true⟩,
 ⟨some 8,.mv (.t 32),none,true⟩]
abbrev o15_21:List Ins:=[⟨some 33,.mv (.t 8),none,true⟩,
 ⟨some 34,.iap 7 1 (.t 5) (.t 33),none,true⟩,
 ⟨some 35,.ld true 1 (.t 34),none,true⟩,
 ⟨some 36,.un .not (.t 35),none,true⟩]
abbrev o15_22:List Ins:=[⟨some 37,.mv (.t 7),none,true⟩,
 ⟨some 38,.mv (.t 8),none,true⟩,
 ⟨some 39,.bsl 3 1 [(.t 38)],none,true⟩,
 ⟨some 40,.app 3 1 8 (.t 37) (.t 39),none,true⟩,
 ⟨some 7,.mv (.t 40),none,true⟩]
abbrev v15_23:VC:=(.cond (.t 36) (.ops o15_22) .skip)
abbrev v15_24:VC:=(.seq (.ops o15_21) v15_23)
abbrev v15_25:VC:=(.seq (.ops o15_20) v15_24)
abbrev o15_26:List Ins:=[⟨some 41,.bin .add (.t 30) (.k (.c (.int .i64 1))),none,true⟩,
 ⟨some 30,.mv (.t 41),none,true⟩]
abbrev v15_27:VC:=(.seq (.block 3 v15_25) (.ops o15_26))
abbrev v15_28:VC:=(.seq (.cond (.t 31) .skip (.exit 2)) v15_27)
abbrev v15_29:VC:=(.seq (.ops o15_19) v15_28)
-- K15_2: changed and kept: [30,7]
abbrev K15_2:List Nat:=[5,29]
abbrev v15_30:VC:=(.loop v15_29)
abbrev v15_31:VC:=(.block 2 v15_30)
abbrev o15_32:List Ins:=[⟨some 42,.mv (.t 7),none,true⟩,
 ⟨some 2,.mv (.t 42),none,true⟩,
 ⟨some 3,.mv (.k (.c (.int .i64 0))),none,true⟩]
abbrev v15_33:VC:=(.seq (.ops o15_32) .ret)
abbrev v15_34:VC:=(.seq (.seq (.ops o15_18) v15_31) v15_33)
abbrev v15_35:VC:=(.seq (.ops o15_17) v15_34)
abbrev v15_36:VC:=(.seq (.seq (.ops o15_8) v15_16) v15_35)
abbrev v15_37:VC:=(.seq (.ops o15_7) v15_36)
abbrev v15_38:VC:=(.seq (.seq (.ops o15_1) v15_6) v15_37)
def ir15:FC:=⟨1,43,[.t 2,.t 3],(.seq (.ops o15_0) v15_38)⟩
theorem c15:compM Try.prog [] 15 = some ir15:=by kernel_rfl
attribute [local go_sem] Nat.reduceEqDiff Nat.reduceAdd Nat.reduceMul reduceIte Nat.reduceLeDiff Nat.reduceLT Nat.reduceBEq reduceCtorEq
theorem seenC_pure (l:List Int):AV.pureL (seenC l) = true:=rfl
theorem seenC_solid (l:List Int):AV.isSolidL (seenC l) = true:=rfl
def lasts (l:List (List Nat × Van)):List Int:=l.filterMap fun p => p.1.getLast?.map fun (k:Nat) => (k:Int)
theorem lasts_snoc (l:List (List Nat × Van)) (p:List Nat × Van):lasts (l ++ [p]) = lasts l ++ (p.1.getLast?.map fun (k:Nat) => (k:Int)).toList:=by
 unfold lasts
 rw [List.filterMap_append]
 cases h:p.1.getLast? <;> simp [h]
def shutL (s:List Int) (k:Nat):List Int:=((List.range k).map fun (n:Nat) => (n:Int)).filter fun n => !decide (n ∈ s)
theorem shutL_succ (s:List Int) (k:Nat):shutL s (k + 1) = shutL s k ++ (if (k:Int) ∈ s then [] else [(k:Int)]):=by
 unfold shutL
 rw [List.range_succ,List.map_append,List.filter_append]
 by_cases h:(k:Int) ∈ s <;> simp [h]
theorem shutL_len (s:List Int) (k:Nat):(shutL s k).length ≤ k:=by
 unfold shutL
 exact Nat.le_trans (List.length_filter_le _ _) (by simp)
def shutS (r:Route):List Int × Int:=if r.ok then (shutL (lasts (goods r)) r.n,0) else ([],80)
set_option maxHeartbeats 4000000 in
theorem shut42 (r:Route):FSpec Try.prog 15 [r.av] (.tup [.c (ints (shutS r).1),iv (shutS r).2]):=by
 refine FSpec_of c15 (Nat.le_refl _) (by decide) fun C hP hN hC hL => ?_; rw [init_st]
 simp only [ir15,Route.av]
 (repeat ((first | refine Va ?_ | refine Vb ?_ | refine Vc ?_ | refine Vd ?_ | refine Ve ?_ | refine Vf ?_); (try simp only [go_sem,hP]); (repeat refine qJ ?_)))
 (refine AS_pu (rcheck_spec r) ?_; simp only [go_sem,hP,Route.av]; (repeat refine qJ ?_); (repeat ((first | refine Va ?_ | refine Vb ?_ | refine Vc ?_ | refine Vd ?_ | refine Ve ?_ | refine Vf ?_); (try simp only [go_sem,hP,Route.av]); (repeat refine qJ ?_))))
 by_cases hok:r.ok = true
 ·have hr:=Route.ok_spec hok
  have hn7:=hr.n7
  simp only [hok,if_true]
  (refine WV_cond rfl (fun h => ?_) (fun h => ?_))
  ·simp at h
  ·clear h
   have hsl:(r.stops.length:Int) = (r.n:Int):=rfl
   refine WV_freeze 1 (ds:=r.cds) rfl rfl ?_
   (repeat ((first | refine Va ?_ | refine Vb ?_ | refine Vc ?_ | refine Vd ?_ | refine Ve ?_ | refine Vf ?_); (try simp only [go_sem,hP]); (repeat refine qJ ?_)))
   (refine AS_pu (tours66 r) ?_; simp only [go_sem,hP]; (repeat refine qJ ?_); (repeat ((first | refine Va ?_ | refine Vb ?_ | refine Vc ?_ | refine Vd ?_ | refine Ve ?_ | refine Vf ?_); (try simp only [go_sem,hP]); (repeat refine qJ ?_))))
   refine WV_keep K15_1 ?_
   simp only [go_sem]
   refine WV_rng hC (L:=[5]) (l:=[.box (seenC (lasts []))]) (env':=lendF [5] _ _) (rem:=(goods r).map (entT r)) (Fin:=fun pend lf => pend = none ∧ lf = [.box (seenC (lasts (goods r)))]) rfl rfl rfl (by decide) (by decide) ?_ (by rw [hN]; decide) (lendF_ok _ _ _) (fun g' => ?_) ?_ ?_
   ·simp only [go_sem,obsLend,Ob.lend,AV.lendL,AV.lend]
    rfl
   ·rw [hP]; exact ⟨_,tours74 hr g',fun _ _ h => h⟩
   ·refine RunR_pre (entT r) (fun pre => [.box (seenC (lasts pre))]) (goods r) (fun p => rfl) (fun t _ => ⟨rfl,rfl⟩) (fun pre p post hts => ?_) (goods r) [] rfl
    have hpo:=goods_ok hr p (by rw [hts]; simp)
    have hple:=goods_len hr (p:=p) (by rw [hts]; simp)
    have hprg:∀ d,AV.prgL d (cellsT p.1) = cellsT p.1:=fun d => prgL_pure d (cellsT_pure _)
    simp only [lasts_snoc]
    intro C1 h1 h2 h3 h4
    have hP0:=hP
    replace hP:=h1.trans hP0
    rw [ownW_upd (by simp)]
    generalize lasts pre = s
    have hpsg:∀ d s,AV.prgL d (seenC s) = seenC s:=fun d s => prgL_pure d (seenC_pure _)
    simp only [go_sem,lendF_upd,lendF_e0,AV.lend,AV.lendL,Option.getD_some,Option.getD_none,List.zip_cons_cons,List.zip_nil_right,updLo,entT,vanv]
    (repeat ((first | refine Va ?_ | refine Vb ?_ | refine Vc ?_ | refine Vd ?_ | refine Ve ?_ | refine Vf ?_); (try simp only [go_sem,hP,hpsg]); (repeat refine qJ ?_)))
    intro C2 h1 h2 h3 h4
    replace hP:=h1.trans hP0
    (repeat ((first | refine Va ?_ | refine Vb ?_ | refine Vc ?_ | refine Vd ?_ | refine Ve ?_ | refine Vf ?_); (try simp only [go_sem,hP,hprg,hpsg]); (repeat refine qJ ?_)))
    (refine WV_cond rfl (fun h => ?_) (fun h => ?_))
    ·have h:0 < p.1.length:=by simpa using h
     obtain ⟨m,hm⟩ : ∃ m,p.1.length = m + 1:=⟨p.1.length - 1,by omega⟩
     have hml:m < p.1.length:=by omega
     have hkk:=hpo.2.1 _ (List.getElem_mem hml)
     have hm7:p.1[m] < 7:=by omega
     have hla:p.1.getLast? = some p.1[m]:=by rw [List.getLast?_eq_getElem?,hm,Nat.add_sub_cancel,List.getElem?_eq_getElem]
     have hw:=w64 (n:=((m + 1:Nat):Int) - 1) (by omega) (by omega)
     have ew:((m + 1:Nat):Int) - 1 = (m:Int):=by omega
     rw [ew] at hw
     rw [hla]
     simp only [Option.map_some,Option.toList_some]
     (repeat ((first | refine Va ?_ | refine Vb ?_ | refine Vc ?_ | refine Vd ?_ | refine Ve ?_ | refine Vf ?_); (try simp only [go_sem,hP,hprg,hpsg,hm,ew,hw,cellsT_len,cellsT_getD hml,Int.toNat_natCast,Nat.mul_one,Int.natCast_nonneg,seenC_len,seenC_set _ hm7]); (repeat refine qJ ?_)))
     refine ⟨none,_,rfl,?_,rfl,rfl⟩
     refine KeepL_mk rfl rfl ?_ ?_ rfl
     ·simp only [go_sem,keepAll,Ob.keepP,keepPL_pure (seenC_pure _) (seenC_solid _)]
     ·simp only [go_sem,winAll]
    ·have h:p.1 = []:=by simpa using h
     rw [h]
     simp only [List.getLast?_nil,Option.map_none,Option.toList_none,List.append_nil]
     (repeat ((first | refine Va ?_ | refine Vb ?_ | refine Vc ?_ | refine Vd ?_ | refine Ve ?_ | refine Vf ?_); (try simp only [go_sem,hP]); (repeat refine qJ ?_)))
     refine ⟨none,_,rfl,?_,rfl,rfl⟩
     refine KeepL_mk rfl rfl ?_ ?_ rfl
     ·simp only [go_sem,keepAll,Ob.keepP,keepPL_pure (seenC_pure _) (seenC_solid _)]
     ·simp only [go_sem,winAll]
   ·rintro _ _ ⟨rfl,rfl⟩
    have hbk:=backs_pure (L:=[5]) (seenC_pure (lasts (goods r)))
    refine ⟨[.box (seenC (lasts (goods r)))],by simp only [obsBack,Ob.back,hbk]; rfl,rfl,?_⟩
    simp only [go_sem,exitOf,ownBack]
    (repeat ((first | refine Va ?_ | refine Vb ?_ | refine Vc ?_ | refine Vd ?_ | refine Ve ?_ | refine Vf ?_); (try simp only [go_sem,hP,Route.cds,stopsC]); (repeat refine qJ ?_)))
    generalize hs:lasts (goods r) = s
    have hpsg:∀ d s,AV.prgL d (seenC s) = seenC s:=fun d s => prgL_pure d (seenC_pure _)
    refine WV_nilslot 7 40 3 1 (by decide) (by decide) rfl rfl ?_
    simp only [go_sem,hpsg]
    have hmax:maxLen = 9223372036854775807:=rfl
    refine WV_loopK K15_2 [5,40] (fun k:Nat => k ≤ r.n) (fun k => r.n - k) (fun k => [(30,iv k),(7,.gr 40)]) (fun k => [(5,.box (seenC s)),(40,.grow 3 1 ((shutL s k).map fun n => [.int .i64 n]))]) 0 (Nat.zero_le _) ?_ ?_
    ·exact Sub_au
    ·intro k hk
     have hsll:=shutL_len s k
     simp only [go_sem,hpsg]
     (repeat ((first | refine Va ?_ | refine Vb ?_ | refine Vc ?_ | refine Vd ?_ | refine Ve ?_ | refine Vf ?_); (try simp only [go_sem,hP,hpsg]); (repeat refine qJ ?_)))
     (refine WV_cond rfl (fun h => ?_) (fun h => ?_))
     ·have h:k < r.n:=by rw [hsl] at h; simpa using h
      have hk7:k < 7:=by omega
      have hw2:=w64 (n:=(k:Int) + 1) (by omega) (by omega)
      (repeat ((first | refine Va ?_ | refine Vb ?_ | refine Vc ?_ | refine Vd ?_ | refine Ve ?_ | refine Vf ?_); (try simp only [go_sem,hP,hpsg,Int.toNat_natCast,Nat.mul_one,Int.natCast_nonneg,seenC_len,seenC_get _ hk7,hw2]); (repeat refine qJ ?_)))
      (refine WV_cond rfl (fun h => ?_) (fun h => ?_))
      ·have h:¬ (k:Int) ∈ s:=by simpa using h
       have e:=shutL_succ s k
       rw [if_neg h] at e
       (repeat ((first | refine Va ?_ | refine Vb ?_ | refine Vc ?_ | refine Vd ?_ | refine Ve ?_ | refine Vf ?_); (try simp only [go_sem,hP,hpsg,hw2]); (repeat refine qJ ?_)))
       refine ⟨k + 1,by omega,by omega,?_⟩
       rw [e]
       exact Sub_au
      ·have h:(k:Int) ∈ s:=by simpa using h
       have e:=shutL_succ s k
       rw [if_pos h,List.append_nil] at e
       (repeat ((first | refine Va ?_ | refine Vb ?_ | refine Vc ?_ | refine Vd ?_ | refine Ve ?_ | refine Vf ?_); (try simp only [go_sem,hP,hpsg,hw2]); (repeat refine qJ ?_)))
       refine ⟨k + 1,by omega,by omega,?_⟩
       rw [e]
       exact Sub_au
     ·have h:k = r.n:=by rw [hsl] at h; simp at h; omega
      subst h
      (repeat ((first | refine Va ?_ | refine Vb ?_ | refine Vc ?_ | refine Vd ?_ | refine Ve ?_ | refine Vf ?_); (try simp only [go_sem,hP,hpsg]); (repeat refine qJ ?_)))
      (refine WV_ret ?_; simp only [thenQ,inQ,RetQ,RetOk,resAll,resA]; simp only [go_sem,tupA,AV.port,AV.portL,exists_eq_left']; (first | exact AVle.of rfl | refine AVle.of ?_ | skip))
      simp [shutS,hok,hs,ints]
 ·have hok:r.ok = false:=by simpa using hok
  simp only [hok,Bool.false_eq_true,if_false]
  (refine WV_cond rfl (fun h => ?_) (fun h => ?_))
  ·(repeat ((first | refine Va ?_ | refine Vb ?_ | refine Vc ?_ | refine Vd ?_ | refine Ve ?_ | refine Vf ?_); (try simp only [go_sem,hP]); (repeat refine qJ ?_)))
   (refine WV_ret ?_; simp only [thenQ,inQ,RetQ,RetOk,resAll,resA]; simp only [go_sem,tupA,AV.port,AV.portL,exists_eq_left'])
   simp only [shutS,hok,Bool.false_eq_true,if_false]
   exact AVle.tup (AVles.cons (AVle.nil 1) (AVles.refl _))
  ·simp at h
end Go.Proofs.Ytakplakbbidihaa
