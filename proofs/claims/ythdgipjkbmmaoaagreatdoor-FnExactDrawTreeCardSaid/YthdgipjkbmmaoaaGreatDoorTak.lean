/- A part of the proof that the last text of this folder tells of. -/
import Derived.Test.YthdgipjkbmmaoaaGreatDoorTae
import Derived.Test.YthdgipjkbmmaoaaGreatDoorTaj
set_option maxRecDepth 100000
namespace Go.Own
open Go Go.Proofs
def t24_0:T:=
.op (.len) [.v 0] [tI]<|
.call 63 [[.v 0],[.k (.int .i64 1)],[.k (.int .i64 4)]] [[tB]]<|
.op (.not) [.v 0] [tB]<|
.ite (.v 0) (
 .ret [[.k (.bool false)]]) (
 .op (.row 10) [.v 3, .k (.int .i64 0)] [tI,tL 3,tL 1,tI,tI,tL 1,tL 1,tL 5,tL 2,tL 7]<|
 .op (.bin .neq) [.v 9, .k (.int .i64 0)] [tB]<|
 .ite (.v 0) (
 .ret [[.k (.bool false)]]) (
 .op (.len) [.v 14] [tI]<|
 .go 0 [.v 15, .v 0, .k (.int .i64 0)]))
def t24_1:T:=
.op (.bin .lss) [.v 0, .v 1] [tB]<|
.ite (.v 0) (
 .call 64 [[.v 3],[.v 1]] [[tB]]<|
 .op (.not) [.v 0] [tB]<|
 .ite (.v 0) (
 .ret [[.k (.bool false)]]) (
 .op (.bin .add) [.v 3, .k (.int .i64 1)] [tI]<|
 .go 0 [.v 6, .v 5, .v 0])) (
 .op (.len) [.v 3] [tI]<|
 .go 1 [.v 4, .v 0, .k (.int .i64 0)])
def t24_2:T:=
.op (.bin .lss) [.v 0, .v 1] [tB]<|
.ite (.v 0) (
 .op (.row 10) [.v 3, .v 1] [tI,tL 3,tL 1,tI,tI,tL 1,tL 1,tL 5,tL 2,tL 7]<|
 .call 65 [[.v 13],[.v 11],[.v 6, .v 5, .v 4, .v 3, .v 2, .v 1, .v 0],[.k (.int .i64 1)],[.k (.int .i64 0)]] [[tB]]<|
 .op (.not) [.v 0] [tB]<|
 .ite (.v 0) (
 .ret [[.k (.bool false)]]) (
 .op (.bin .add) [.v 13, .k (.int .i64 1)] [tI]<|
 .go 1 [.v 16, .v 15, .v 0])) (
 .op (.row 10) [.v 3, .k (.int .i64 0)] [tI,tL 3,tL 1,tI,tI,tL 1,tL 1,tL 5,tL 2,tL 7]<|
 .call 66 [[.v 13],[.v 6, .v 5, .v 4, .v 3, .v 2, .v 1, .v 0]] [[tI]]<|
 .op (.bin .lss) [.v 0, .k (.int .i64 200)] [tB]<|
 .ret [[.v 0]])
def lb24:List (Key×List (Nat×List Ty)):=[(.head 0,[(0,[tL 10]),(17,[tI]),(18,[tI])]),(.head 2,[(0,[tL 10]),(27,[tI]),(28,[tI])])]
theorem m24:mt 24 Tryz.f24 [] [] [] lb24=some (t24_0,[t24_1,t24_2]):=by kernel_rfl
def t30_0:T:=
.op (.len) [.v 1] [tI]<|
.op (.len) [.v 1] [tI]<|
.op (.bin .neq) [.v 1, .v 0] [tB]<|
.ite (.v 0) (
 .ret [[.k (.bool false)]]) (
 .go 0 [.v 4, .v 3, .k (.int .i64 0)])
def t30_1:T:=
.op (.len) [.v 2] [tI]<|
.op (.bin .lss) [.v 1, .v 0] [tB]<|
.ite (.v 0) (
 .op (.row 5) [.v 4, .v 2] [tI,tI,tS,tL 4,tL 5]<|
 .op (.row 5) [.v 8, .v 7] [tI,tI,tS,tL 4,tL 5]<|
 .call 10 [[.v 9, .v 8, .v 7, .v 6, .v 5],[.v 4, .v 3, .v 2, .v 1, .v 0]] [[tB]]<|
 .op (.not) [.v 0] [tB]<|
 .ite (.v 0) (
 .ret [[.k (.bool false)]]) (
 .op (.bin .add) [.v 14, .k (.int .i64 1)] [tI]<|
 .go 0 [.v 17, .v 16, .v 0])) (
 .ret [[.k (.bool true)]])
def lb30:List (Key×List (Nat×List Ty)):=[(.head 0,[(0,[tL 5]),(1,[tL 5]),(5,[tI])])]
theorem m30:mt 30 Tryz.f30 [] [] [] lb30=some (t30_0,[t30_1]):=by kernel_rfl
def t33_0:T:=
.go 0 [.v 1, .v 0, .k (.int .i64 0)]
def t33_1:T:=
.op (.len) [.v 2] [tI]<|
.op (.bin .lss) [.v 1, .v 0] [tB]<|
.ite (.v 0) (
 .op (.idx 3) [.v 4, .v 2] [tI]<|
 .op (.putp [] 0 3 true) [.v 5, .v 0, .v 4] [tL 3]<|
 .op (.bin .add) [.v 5, .k (.int .i64 1)] [tI]<|
 .op (.idx 3) [.v 1, .v 5] [tI]<|
 .op (.putp [] 1 3 true) [.v 2, .v 0, .v 1] [tL 3]<|
 .op (.bin .add) [.v 2, .k (.int .i64 1)] [tI]<|
 .call 78 [[.v 0]] [[tS]]<|
 .op (.idx 3) [.v 2, .v 9] [tI]<|
 .op (.putp [] 2 3 true) [.v 3, .v 0, .v 1] [tL 3]<|
 .op (.bin .add) [.v 3, .k (.int .i64 1)] [tI]<|
 .op (.bin .add) [.v 12, .k (.int .i64 1)] [tI]<|
 .go 0 [.v 2, .v 1, .v 0]) (
 .ret [[.v 3],[.v 4]])
def lb33:List (Key×List (Nat×List Ty)):=[(.head 0,[(0,[tL 3]),(1,[tI]),(5,[tI])])]
theorem m33:mt 33 Tryz.f33 [] [] [] lb33=some (t33_0,[t33_1]):=by kernel_rfl
def t35_0:T:=
.go 0 [.v 1, .v 0, .k (.int .i64 0)]
def t35_1:T:=
.op (.len) [.v 2] [tI]<|
.op (.bin .lss) [.v 1, .v 0] [tB]<|
.ite (.v 0) (
 .op (.idx 1) [.v 4, .v 2] [tI]<|
 .op (.putp [] 0 1 true) [.v 5, .v 0, .v 4] [tL 1]<|
 .op (.bin .add) [.v 5, .k (.int .i64 1)] [tI]<|
 .op (.bin .add) [.v 5, .k (.int .i64 1)] [tI]<|
 .go 0 [.v 2, .v 1, .v 0]) (
 .ret [[.v 3],[.v 4]])
def lb35:List (Key×List (Nat×List Ty)):=[(.head 0,[(0,[tL 1]),(1,[tI]),(5,[tI])])]
theorem m35:mt 35 Tryz.f35 [] [] [] lb35=some (t35_0,[t35_1]):=by kernel_rfl
def t51_0:T:=
.op (.len) [.v 7] [tI]<|
.op (.bin .gtr) [.v 0, .k (.int .i64 3)] [tB]<|
.ite (.v 0) (
 .ret [[.k (.bool false)]]) (
 .go 0 [.v 11, .v 10, .v 9, .v 8, .v 7, .v 6, .v 5, .v 4, .v 3, .v 2, .k (.int .i64 0)])
def t51_1:T:=
.op (.len) [.v 8] [tI]<|
.op (.bin .lss) [.v 1, .v 0] [tB]<|
.ite (.v 0) (
 .op (.row 1) [.v 10, .v 2] [tL 2]<|
 .op (.len) [.v 0] [tI]<|
 .op (.bin .gtr) [.v 0, .k (.int .i64 3)] [tB]<|
 .ite (.v 0) (
 .ret [[.k (.bool false)]]) (
 .go 1 [.v 15, .v 14, .v 13, .v 12, .v 11, .v 10, .v 9, .v 8, .v 7, .v 6, .v 5, .k (.int .i64 0)])) (
 .ret [[.k (.bool true)]])
def t51_2:T:=
.op (.row 1) [.v 9, .v 1] [tL 2]<|
.op (.len) [.v 0] [tI]<|
.op (.bin .lss) [.v 2, .v 0] [tB]<|
.ite (.v 0) (
 .op (.row 1) [.v 12, .v 4] [tL 2]<|
 .op (.row 2) [.v 0, .v 4] [tI,tL 5]<|
 .op (.len) [.v 16] [tI]<|
 .op (.bin .sub) [.v 0, .k (.int .i64 1)] [tI]<|
 .call 49 [[.v 3],[.k (.int .i64 0)],[.v 0]] [[tB]]<|
 .op (.not) [.v 0] [tB]<|
 .ite (.v 0) (
 .ret [[.k (.bool false)]]) (
 .op (.len) [.v 20] [tI]<|
 .call 88 [[.v 5],[.k (.int .i64 0)],[.v 0],[.k (.int .i64 0)]] [[tB]]<|
 .op (.not) [.v 0] [tB]<|
 .ite (.v 0) (
 .ret [[.k (.bool false)]]) (
 .op (.bin .add) [.v 13, .k (.int .i64 1)] [tI]<|
 .go 1 [.v 25, .v 24, .v 23, .v 22, .v 21, .v 20, .v 19, .v 18, .v 17, .v 16, .v 15, .v 0]))) (
 .op (.bin .add) [.v 4, .k (.int .i64 1)] [tI]<|
 .go 0 [.v 15, .v 14, .v 13, .v 12, .v 11, .v 10, .v 9, .v 8, .v 7, .v 6, .v 0])
def lb51:List (Key×List (Nat×List Ty)):=[(.head 0,[(1,[tI,tL 3,tL 1,tI,tI,tL 1,tL 1,tL 5,tL 2,tL 7]),(3,[tI])]),(.head 2,[(1,[tI,tL 3,tL 1,tI,tI,tL 1,tL 1,tL 5,tL 2,tL 7]),(3,[tI]),(4,[tI])])]
theorem m51:mt 51 Tryz.f51 [] [] [] lb51=some (t51_0,[t51_1,t51_2]):=by kernel_rfl
def t52_0:T:=
.call 89 [[.v 8]] [[tI,tI]]<|
.op (.bin .gtr) [.v 3, .k (.int .i64 4)] [tB]<|
.ite (.v 0) (
 .ret [[.k (.bool false)]]) (
 .call 90 [[.v 13],[.v 12],[.v 11, .v 10, .v 9, .v 8, .v 7, .v 6, .v 5]] [[tB]]<|
 .op (.not) [.v 0] [tB]<|
 .ite (.v 0) (
 .ret [[.k (.bool false)]]) (
 .op (.len) [.v 7] [tI]<|
 .call 49 [[.v 0],[.v 5],[.v 4]] [[tB]]<|
 .op (.not) [.v 0] [tB]<|
 .ite (.v 0) (
 .ret [[.k (.bool false)]]) (
 .op (.row 10) [.v 18, .v 17] [tI,tL 3,tL 1,tI,tI,tL 1,tL 1,tL 5,tL 2,tL 7]<|
 .op (.len) [.v 8] [tI]<|
 .call 91 [[.v 24],[.v 10],[.v 0],[.v 19]] [[tB]]<|
 .op (.not) [.v 0] [tB]<|
 .ite (.v 0) (
 .ret [[.k (.bool false)]]) (
 .op (.bin .eql) [.v 29, .k (.int .i64 3)] [tB]<|
 .ite (.v 0) (
 .op (.bin .add) [.v 22, .k (.int .i64 1)] [tI]<|
 .op (.len) [.v 27] [tI]<|
 .op (.bin .gtr) [.v 0, .k (.int .i64 0)] [tB]<|
 .ite (.v 0) (
 .op (.len) [.v 15] [tI]<|
 .call 88 [[.v 30],[.v 17],[.v 0],[.v 3]] [[tB]]<|
 .op (.not) [.v 0] [tB]<|
 .ite (.v 0) (
 .ret [[.k (.bool false)]]) (
 .go 0 [.v 38, .v 37, .v 29, .v 5, .v 36, .v 35, .v 34, .v 33, .v 32, .v 31, .v 30, .k (.int .i64 0)])) (
 .go 0 [.v 35, .v 34, .v 26, .v 2, .v 33, .v 32, .v 31, .v 30, .v 29, .v 28, .v 27, .k (.int .i64 0)])) (
 .go 0 [.v 32, .v 31, .v 23, .v 22, .v 30, .v 29, .v 28, .v 27, .v 26, .v 25, .v 24, .k (.int .i64 0)])))))
def t52_1:T:=
.op (.len) [.v 1] [tI]<|
.op (.bin .lss) [.v 1, .v 0] [tB]<|
.ite (.v 0) (
 .op (.row 7) [.v 3, .v 2] [tI,tI,tL 1,tL 1,tL 5,tL 2,tL 7]<|
 .op (.bin .add) [.v 18, .k (.int .i64 1)] [tI]<|
 .call 52 [[.v 21],[.v 20],[.v 7, .v 6, .v 5, .v 4, .v 3, .v 2, .v 1],[.v 0],[.v 18]] [[tB]]<|
 .op (.not) [.v 0] [tB]<|
 .ite (.v 0) (
 .ret [[.k (.bool false)]]) (
 .op (.bin .add) [.v 12, .k (.int .i64 1)] [tI]<|
 .go 0 [.v 24, .v 23, .v 22, .v 21, .v 20, .v 19, .v 18, .v 17, .v 16, .v 15, .v 14, .v 0])) (
 .ret [[.k (.bool true)]])
def lb52:List (Key×List (Nat×List Ty)):=[(.head 0,[(0,[tL 10]),(1,[tI]),(3,[tI]),(4,[tI]),(7,[tI,tI,tL 1,tL 1,tL 5,tL 2,tL 7]),(14,[tI])])]
theorem m52:mt 52 Tryz.f52 [] [] [] lb52=some (t52_0,[t52_1]):=by kernel_rfl
def t62_0:T:=
.op (.len) [.v 0] [tI]<|
.op (.mk [.int .i64 0, .int .i64 0]) [.v 0] [tL 2]<|
.go 0 [.v 2, .v 0, .k (.int .i64 0)]
def t62_1:T:=
.op (.len) [.v 2] [tI]<|
.op (.bin .lss) [.v 1, .v 0] [tB]<|
.ite (.v 0) (
 .op (.row 2) [.v 4, .v 2] [tI,tI]<|
 .call 105 [[.v 1, .v 0]] [[tI,tI]]<|
 .op (.idx 2) [.v 7, .v 6] [tI]<|
 .op (.putp [] 0 2 true) [.v 8, .v 0, .v 2, .v 1] [tL 2]<|
 .op (.bin .add) [.v 8, .k (.int .i64 1)] [tI]<|
 .go 0 [.v 11, .v 1, .v 0]) (
 .ret [[.v 3]])
def lb62:List (Key×List (Nat×List Ty)):=[(.head 0,[(0,[tL 2]),(3,[tL 2]),(4,[tI])])]
theorem m62:mt 62 Tryz.f62 [] [] [] lb62=some (t62_0,[t62_1]):=by kernel_rfl
def t68_0:T:=
.op (.len) [.v 0] [tI]<|
.go 0 [.v 1, .v 0, .k (.int .i64 0)]
def t68_1:T:=
.op (.bin .lss) [.v 0, .v 1] [tB]<|
.ite (.v 0) (
 .op (.row 3) [.v 3, .v 1] [tI,tI,tS]<|
 .call 108 [[.v 2, .v 1, .v 0]] [[tB]]<|
 .op (.not) [.v 0] [tB]<|
 .ite (.v 0) (
 .ret [[.k (.bool false)]]) (
 .op (.bin .add) [.v 6, .k (.int .i64 1)] [tI]<|
 .go 0 [.v 9, .v 8, .v 0])) (
 .ret [[.k (.bool true)]])
def lb68:List (Key×List (Nat×List Ty)):=[(.head 0,[(5,[tL 3]),(6,[tI]),(7,[tI])])]
theorem m68:mt 68 Tryz.f68 [] [] [] lb68=some (t68_0,[t68_1]):=by kernel_rfl
def t79_0:T:=
.go 0 [.v 1, .v 0, .k (.int .i64 0)]
def t79_1:T:=
.op (.len) [.v 2] [tI]<|
.op (.bin .lss) [.v 1, .v 0] [tB]<|
.ite (.v 0) (
 .op (.idx 2) [.v 4, .v 2] [tI]<|
 .op (.putp [] 0 2 true) [.v 5, .v 0, .v 4] [tL 2]<|
 .op (.bin .add) [.v 5, .k (.int .i64 1)] [tI]<|
 .op (.idx 2) [.v 1, .v 5] [tI]<|
 .op (.at [1]) [.v 2, .v 0] [tL 5]<|
 .op (.at [1]) [.v 3, .v 1] [tL 5]<|
 .op (.hole [1]) [.v 4, .v 2] [tL 2]<|
 .call 37 [[.v 1],[.v 4]] [[tI],[tL 5]]<|
 .op (.setAt [1]) [.v 2, .v 0, .v 5] [tL 2]<|
 .op (.bin .add) [.v 12, .k (.int .i64 1)] [tI]<|
 .go 0 [.v 1, .v 3, .v 0]) (
 .ret [[.v 3],[.v 4]])
def lb79:List (Key×List (Nat×List Ty)):=[(.head 0,[(0,[tL 2]),(1,[tI]),(5,[tI])])]
theorem m79:mt 79 Tryz.f79 [] [] [(0,0,[1],tL 5)] lb79=some (t79_0,[t79_1]):=by kernel_rfl
def t109_0:T:=
.call 135 [[.v 2],[.v 0]] [[tI]]<|
.op (.bin .geq) [.v 0, .k (.int .i64 0)] [tB]<|
.ite (.v 0) (
 .op (.row 2) [.v 4, .v 1] [tL 2,tL 3]<|
 .op (.len) [.v 0] [tI]<|
 .op (.row 10) [.v 8, .v 6] [tI,tL 3,tL 1,tI,tI,tL 1,tL 1,tL 5,tL 2,tL 7]<|
 .op (.len) [.v 8] [tI]<|
 .op (.bin .eql) [.v 11, .v 0] [tB]<|
 .ite (.v 0) (
 .op (.row 2) [.v 19, .v 16] [tL 2,tL 3]<|
 .call 136 [[.v 0]] [[tL 3]]<|
 .ret [[.v 0]]) (
 .op (.row 10) [.v 20, .v 18] [tI,tL 3,tL 1,tI,tI,tL 1,tL 1,tL 5,tL 2,tL 7]<|
 .call 136 [[.v 8]] [[tL 3]]<|
 .ret [[.v 0]])) (
 .op (.row 10) [.v 5, .v 3] [tI,tL 3,tL 1,tI,tI,tL 1,tL 1,tL 5,tL 2,tL 7]<|
 .call 136 [[.v 8]] [[tL 3]]<|
 .ret [[.v 0]])
def lb109:List (Key×List (Nat×List Ty)):=[]
theorem m109:mt 109 Tryz.f109 [] [] [] lb109=some (t109_0,[]):=by kernel_rfl
def t117_0:T:=
.op (.len) [.v 1] [tI]<|
.op (.len) [.v 1] [tI]<|
.op (.bin .neq) [.v 1, .v 0] [tB]<|
.ite (.v 0) (
 .ret [[.k (.bool false)]]) (
 .go 0 [.v 4, .v 3, .k (.int .i64 0)])
def t117_1:T:=
.op (.len) [.v 2] [tI]<|
.op (.bin .lss) [.v 1, .v 0] [tB]<|
.ite (.v 0) (
 .op (.row 2) [.v 4, .v 2] [tI,tI]<|
 .op (.row 2) [.v 5, .v 4] [tI,tI]<|
 .call 144 [[.v 3, .v 2],[.v 1, .v 0]] [[tB]]<|
 .op (.not) [.v 0] [tB]<|
 .ite (.v 0) (
 .ret [[.k (.bool false)]]) (
 .op (.bin .add) [.v 8, .k (.int .i64 1)] [tI]<|
 .go 0 [.v 11, .v 10, .v 0])) (
 .ret [[.k (.bool true)]])
def lb117:List (Key×List (Nat×List Ty)):=[(.head 0,[(0,[tL 2]),(1,[tL 2]),(5,[tI])])]
theorem m117:mt 117 Tryz.f117 [] [] [] lb117=some (t117_0,[t117_1]):=by kernel_rfl
def t120_0:T:=
.call 84 [[.v 1],[.v 0]] [[tI]]<|
.op (.bin .lss) [.v 0, .k (.int .i64 0)] [tB]<|
.ite (.v 0) (
 .ret [[.k (.int .i64 (-1))]]) (
 .ret [[.v 1]])
def lb120:List (Key×List (Nat×List Ty)):=[]
theorem m120:mt 120 Tryz.f120 [] [] [] lb120=some (t120_0,[]):=by kernel_rfl
def t135_0:T:=
.op (.len) [.v 1] [tI]<|
.go 0 [.v 1, .v 2, .v 0, .k (.int .i64 0)]
def t135_1:T:=
.op (.bin .lss) [.v 0, .v 1] [tB]<|
.ite (.v 0) (
 .op (.row 2) [.v 3, .v 1] [tL 2,tL 3]<|
 .call 69 [[.v 1],[.v 6]] [[tI]]<|
 .op (.bin .eql) [.v 0, .k (.int .i64 0)] [tB]<|
 .ite (.v 0) (
 .ret [[.v 5]]) (
 .op (.bin .add) [.v 5, .k (.int .i64 1)] [tI]<|
 .go 0 [.v 9, .v 8, .v 7, .v 0])) (
 .ret [[.k (.int .i64 (-1))]])
def lb135:List (Key×List (Nat×List Ty)):=[(.head 0,[(1,[tL 2]),(7,[tL 2]),(8,[tI]),(9,[tI])])]
theorem m135:mt 135 Tryz.f135 [] [] [] lb135=some (t135_0,[t135_1]):=by kernel_rfl
def t140_0:T:=
.call 108 [[.v 2, .v 1, .v 0]] [[tB]]<|
.ite (.v 0) (
 .op (.bin .eql) [.v 3, .k (.int .i64 1)] [tB]<|
 .ite (.v 0) (
 .op (.bin .neq) [.v 3, .k (.int .i64 0)] [tB]<|
 .ite (.v 0) (
 .ret [[.k (.bool true)]]) (
 .op (.bin .eql) [.v 5, .k (.int .i64 2)] [tB]<|
 .ite (.v 0) (
 .op (.bin .neq) [.v 4, .k (.str [])] [tB]<|
 .ret [[.v 0]]) (
 .ret [[.k (.bool false)]]))) (
 .op (.bin .eql) [.v 4, .k (.int .i64 2)] [tB]<|
 .ite (.v 0) (
 .op (.bin .neq) [.v 3, .k (.str [])] [tB]<|
 .ret [[.v 0]]) (
 .ret [[.k (.bool false)]]))) (
 .ret [[.k (.bool false)]])
def lb140:List (Key×List (Nat×List Ty)):=[]
theorem m140:mt 140 Tryz.f140 [] [] [] lb140=some (t140_0,[]):=by kernel_rfl
def t146_0:T:=
.op (.bin .eql) [.v 2, .k (.int .i64 1)] [tB]<|
.ite (.v 0) (
 .call 156 [[.v 2]] [[tS]]<|
 .ret [[.v 0]]) (
 .op (.bin .eql) [.v 3, .k (.int .i64 2)] [tB]<|
 .ite (.v 0) (
 .ret [[.v 2]]) (
 .ret [[.k (.str [])]]))
def lb146:List (Key×List (Nat×List Ty)):=[]
theorem m146:mt 146 Tryz.f146 [] [] [] lb146=some (t146_0,[]):=by kernel_rfl
def t148_0:T:=
.op (.len) [.v 6] [tI]<|
.op (.bin .gtr) [.v 0, .k (.int .i64 0)] [tB]<|
.ite (.v 0) (
 .op (.lit 2 []) [] [tL 2]<|
 .op (.app 2 true) [.v 0, .v 9] [tL 2]<|
 .op (.lit 2 [2]) [.v 16, .v 0] [tL 2]<|
 .op (.app 2 false) [.v 18, .v 0] [tL 2]<|
 .op (.bin .add) [.v 18, .k (.int .i64 1)] [tI]<|
 .go 0 [.v 21, .v 1, .v 0, .v 7, .v 18, .v 17, .v 16, .v 15, .v 14, .v 13, .v 12, .v 11, .v 10, .v 9, .v 8, .k (.int .i64 0), .k (.int .i64 0), .k (.str []), .k (.sl 4 []), .k (.sl 5 []), .v 17, .k (.int .i64 (-1)), .k (.str []), .k (.sl 4 []), .k (.sl 5 []), .k (.int .i64 0)]) (
 .op (.bin .add) [.v 14, .k (.int .i64 1)] [tI]<|
 .go 0 [.v 17, .v 16, .v 0, .v 3, .v 14, .v 13, .v 12, .v 11, .v 10, .v 9, .v 8, .v 7, .v 6, .v 5, .v 4, .k (.int .i64 0), .k (.int .i64 0), .k (.str []), .k (.sl 4 []), .k (.sl 5 []), .v 13, .k (.int .i64 (-1)), .k (.str []), .k (.sl 4 []), .k (.sl 5 []), .k (.int .i64 0)])
def t148_1:T:=
.op (.len) [.v 18] [tI]<|
.op (.bin .lss) [.v 1, .v 0] [tB]<|
.ite (.v 0) (
 .op (.row 1) [.v 21, .v 2] [tI]<|
 .op (.row 1) [.v 21, .v 3] [tL 5]<|
 .call 147 [[.v 0],[.v 18, .v 17, .v 16, .v 15]] [[tI,tI,tS]]<|
 .op (.lit 4 [4]) [.v 4, .v 2, .v 1, .v 0] [tL 4]<|
 .op (.app 4 true) [.v 10, .v 0] [tL 4]<|
 .op (.bin .add) [.v 9, .k (.int .i64 1)] [tI]<|
 .go 0 [.v 35, .v 34, .v 33, .v 32, .v 31, .v 30, .v 29, .v 28, .v 27, .v 26, .v 25, .v 24, .v 23, .v 22, .v 21, .v 20, .v 19, .v 18, .v 17, .v 16, .v 15, .v 14, .v 13, .v 1, .v 11, .v 0]) (
 .call 152 [[.v 27, .v 26, .v 25],[.v 17],[.v 16, .v 15, .v 14, .v 13],[.v 24]] [[tL 5],[tL 4,tL 2,tI]]<|
 .ret [[.v 11, .v 10, .v 9, .v 8, .v 3],[.v 2, .v 1, .v 0]])
def lb148:List (Key×List (Nat×List Ty)):=[(.head 0,[(0,[tL 4,tL 2,tI]),(3,[tL 2]),(5,[tI,tI,tL 1,tL 1,tL 5,tL 2,tL 7]),(6,[tL 3,tL 3,tL 1,tL 3]),(8,[tI,tI,tS,tL 4,tL 5]),(9,[tI,tI,tS,tL 4,tL 5]),(10,[tI])])]
theorem m148:mt 148 Tryz.f148 [] [] [] lb148=some (t148_0,[t148_1]):=by kernel_rfl
def t152_0:T:=
.op (.lit 5 []) [] [tL 5]<|
.go 0 [.v 9, .v 8, .v 7, .v 6, .v 1, .v 5, .v 4, .v 3, .v 2, .v 0, .k (.int .i64 0)]
def t152_1:T:=
.op (.len) [.v 7] [tI]<|
.op (.bin .lss) [.v 1, .v 0] [tB]<|
.ite (.v 0) (
 .op (.row 7) [.v 9, .v 2] [tI,tI,tL 1,tL 1,tL 5,tL 2,tL 7]<|
 .call 128 [[.v 15],[.v 9],[.k (.int .i64 0)]] [[tL 2]]<|
 .call 127 [[.v 20, .v 19, .v 18],[.v 7, .v 6, .v 5, .v 4, .v 3, .v 2, .v 1],[.v 15, .v 14, .v 13, .v 12],[.v 0]] [[tL 5],[tL 4,tL 2,tI]]<|
 .op (.app 5 false) [.v 15, .v 3] [tL 5]<|
 .op (.bin .add) [.v 15, .k (.int .i64 1)] [tI]<|
 .go 0 [.v 4, .v 3, .v 2, .v 23, .v 22, .v 21, .v 20, .v 19, .v 18, .v 1, .v 0]) (
 .ret [[.v 3],[.v 12, .v 11, .v 10]])
def lb152:List (Key×List (Nat×List Ty)):=[(.head 0,[(0,[tL 4,tL 2,tI]),(1,[tL 7]),(3,[tL 2]),(6,[tL 3,tL 3,tL 1,tL 3]),(9,[tL 5]),(10,[tI])])]
theorem m152:mt 152 Tryz.f152 [] [] [] lb152=some (t152_0,[t152_1]):=by kernel_rfl
def t153_0:T:=
.ret [[.k (.int .i64 1), .v 0, .k (.str [])]]
def lb153:List (Key×List (Nat×List Ty)):=[]
theorem m153:mt 153 Tryz.f153 [] [] [] lb153=some (t153_0,[]):=by kernel_rfl
def t161_0:T:=
.go 0 [.v 1, .v 0, .k (.int .i64 0)]
def t161_1:T:=
.op (.len) [.v 2] [tI]<|
.op (.bin .lss) [.v 1, .v 0] [tB]<|
.ite (.v 0) (
 .op (.row 1) [.v 4, .v 2] [tI]<|
 .op (.bin .eql) [.v 0, .v 4] [tB]<|
 .ite (.v 0) (
 .ret [[.k (.bool true)]]) (
 .op (.bin .add) [.v 4, .k (.int .i64 1)] [tI]<|
 .go 0 [.v 7, .v 6, .v 0])) (
 .ret [[.k (.bool false)]])
def lb161:List (Key×List (Nat×List Ty)):=[(.head 0,[(0,[tL 1]),(1,[tI]),(5,[tI])])]
theorem m161:mt 161 Tryz.f161 [] [] [] lb161=some (t161_0,[t161_1]):=by kernel_rfl
def t165_0:T:=
.call 49 [[.v 0],[.k (.int .i64 (-1000))],[.k (.int .i64 1000)]] [[tB]]<|
.op (.not) [.v 0] [tB]<|
.ite (.v 0) (
 .ret [[.k (.int .i64 0), .k (.int .i64 0), .k (.str [])]]) (
 .ret [[.k (.int .i64 1), .v 2, .k (.str [])]])
def lb165:List (Key×List (Nat×List Ty)):=[]
theorem m165:mt 165 Tryz.f165 [] [] [] lb165=some (t165_0,[]):=by kernel_rfl
end Go.Own
