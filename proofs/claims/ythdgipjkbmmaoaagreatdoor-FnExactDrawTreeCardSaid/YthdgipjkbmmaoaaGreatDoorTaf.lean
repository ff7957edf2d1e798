/- A part of the proof that the last text of this folder tells of. -/
import Derived.Test.YthdgipjkbmmaoaaGreatDoorTae
set_option maxRecDepth 100000
namespace Go.Own
open Go Go.Proofs
def t3_0:T:=
.call 4 [[.v 1],[.k (.int .i64 1048576)]] [[tI]]<|
.op (.bin .lss) [.v 0, .k (.int .i64 0)] [tB]<|
.ite (.v 0) (
 .ret [[.k (.bool true)]]) (
 .call 5 [[.v 2],[.v 1]] [[tI]]<|
 .op (.bin .lss) [.v 0, .k (.int .i64 0)] [tB]<|
 .ite (.v 0) (
 .ret [[.k (.bool true)]]) (
 .call 7 [[.v 5]] [[tL 10]]<|
 .call 8 [[.v 5]] [[tL 2]]<|
 .call 6 [[.v 1],[.v 0]] [[tI,tI,tS,tL 4,tL 5]]<|
 .call 7 [[.v 12]] [[tL 10]]<|
 .call 8 [[.v 12]] [[tL 2]]<|
 .call 9 [[.v 1],[.v 0]] [[tI,tI,tS,tL 4,tL 5]]<|
 .call 10 [[.v 4, .v 3, .v 2, .v 1, .v 0],[.v 11, .v 10, .v 9, .v 8, .v 7]] [[tB]]<|
 .op (.not) [.v 0] [tB]<|
 .ite (.v 0) (
 .ret [[.k (.bool false)]]) (
 .call 7 [[.v 21]] [[tL 10]]<|
 .call 11 [[.v 9],[.v 0]] [[tB]]<|
 .op (.not) [.v 0] [tB]<|
 .ite (.v 0) (
 .ret [[.k (.bool false)]]) (
 .call 8 [[.v 23]] [[tL 2]]<|
 .call 12 [[.v 11],[.v 0]] [[tB]]<|
 .op (.not) [.v 0] [tB]<|
 .ite (.v 0) (
 .ret [[.k (.bool false)]]) (
 .call 13 [[.v 14],[.k (.int .i64 1)]] [[tI],[tL 10]]<|
 .call 14 [[.v 15],[.v 1]] [[tI],[tL 2]]<|
 .op (.bin .lss) [.v 1, .k (.int .i64 0)] [tB]<|
 .ite (.v 0) (
 .ret [[.k (.bool false)]]) (
 .call 10 [[.v 17, .v 16, .v 15, .v 14, .v 13],[.v 24, .v 23, .v 22, .v 21, .v 20]] [[tB]]<|
 .op (.not) [.v 0] [tB]<|
 .ite (.v 0) (
 .ret [[.k (.bool false)]]) (
 .call 15 [[.v 19, .v 18, .v 17, .v 16, .v 15],[.k (.int .i64 1)]] [[tI],[tL 4,tL 5]]<|
 .call 16 [[.v 22, .v 21, .v 20, .v 1, .v 0],[.k (.int .i64 1)]] [[tI]]<|
 .op (.bin .lss) [.v 0, .k (.int .i64 0)] [tB]<|
 .ite (.v 0) (
 .ret [[.k (.bool false)]]) (
 .op (.bin .neq) [.v 1, .v 4] [tB]<|
 .ite (.v 0) (
 .ret [[.k (.bool false)]]) (
 .call 7 [[.v 40]] [[tL 10]]<|
 .call 8 [[.v 40]] [[tL 2]]<|
 .call 9 [[.v 1],[.v 0]] [[tI,tI,tS,tL 4,tL 5]]<|
 .call 10 [[.v 4, .v 3, .v 2, .v 1, .v 0],[.v 39, .v 38, .v 37, .v 36, .v 35]] [[tB]]<|
 .op (.not) [.v 0] [tB]<|
 .ite (.v 0) (
 .ret [[.k (.bool false)]]) (
 .call 16 [[.v 34, .v 33, .v 32, .v 13, .v 12],[.k (.int .i64 1)]] [[tI]]<|
 .op (.bin .lss) [.v 0, .k (.int .i64 0)] [tB]<|
 .ite (.v 0) (
 .ret [[.k (.bool false)]]) (
 .op (.bin .neq) [.v 1, .v 16] [tB]<|
 .ite (.v 0) (
 .ret [[.k (.bool false)]]) (
 .ret [[.k (.bool true)]]))))))))))))
def lb3:List (Key×List (Nat×List Ty)):=[]
theorem m3:mt 3 Tryz.f3 [] [] [] lb3=some (t3_0,[]):=by kernel_rfl
def t5_0:T:=
.op (.len) [.v 1] [tI]<|
.op (.bin .sub) [.v 1, .v 0] [tI]<|
.op (.bin .lss) [.v 0, .k (.int .i64 0)] [tB]<|
.ite (.v 0) (
 .ret [[.k (.int .i64 (-1))]]) (
 .go 0 [.v 4, .v 1, .k (.int .i64 0)])
def t5_1:T:=
.op (.len) [.v 2] [tI]<|
.op (.bin .lss) [.v 1, .v 0] [tB]<|
.ite (.v 0) (
 .op (.row 2) [.v 4, .v 2] [tL 2,tL 3]<|
 .call 18 [[.v 1, .v 0],[.v 5]] [[tI]]<|
 .op (.bin .lss) [.v 0, .k (.int .i64 0)] [tB]<|
 .ite (.v 0) (
 .ret [[.k (.int .i64 (-1))]]) (
 .op (.bin .add) [.v 6, .k (.int .i64 1)] [tI]<|
 .go 0 [.v 9, .v 2, .v 0])) (
 .ret [[.v 3]])
def lb5:List (Key×List (Nat×List Ty)):=[(.head 0,[(0,[tL 2]),(1,[tI]),(5,[tI])])]
theorem m5:mt 5 Tryz.f5 [] [] [] lb5=some (t5_0,[t5_1]):=by kernel_rfl
def t6_0:T:=
.call 19 [[.v 1]] [[tB]]<|
.op (.not) [.v 0] [tB]<|
.ite (.v 0) (
 .ret [[.k (.int .i64 0), .k (.int .i64 0), .k (.str []), .k (.sl 4 []), .k (.sl 5 [])]]) (
 .call 20 [[.v 2]] [[tB]]<|
 .op (.not) [.v 0] [tB]<|
 .ite (.v 0) (
 .ret [[.k (.int .i64 0), .k (.int .i64 0), .k (.str []), .k (.sl 4 []), .k (.sl 5 [])]]) (
 .call 21 [[.v 5],[.v 4]] [[tI,tI,tS,tL 4,tL 5,tL 8]]<|
 .ret [[.v 5, .v 4, .v 3, .v 2, .v 1]]))
def lb6:List (Key×List (Nat×List Ty)):=[]
theorem m6:mt 6 Tryz.f6 [] [] [] lb6=some (t6_0,[]):=by kernel_rfl
def t10_0:T:=
.op (.bin .neq) [.v 9, .v 4] [tB]<|
.ite (.v 0) (
 .ret [[.k (.bool false)]]) (
 .op (.bin .neq) [.v 9, .v 4] [tB]<|
 .ite (.v 0) (
 .ret [[.k (.bool false)]]) (
 .op (.bin .neq) [.v 9, .v 4] [tB]<|
 .ite (.v 0) (
 .ret [[.k (.bool false)]]) (
 .call 29 [[.v 9],[.v 4]] [[tB]]<|
 .op (.not) [.v 0] [tB]<|
 .ite (.v 0) (
 .ret [[.k (.bool false)]]) (
 .call 30 [[.v 10],[.v 5]] [[tB]]<|
 .op (.not) [.v 0] [tB]<|
 .ite (.v 0) (
 .ret [[.k (.bool false)]]) (
 .ret [[.k (.bool true)]])))))
def lb10:List (Key×List (Nat×List Ty)):=[]
theorem m10:mt 10 Tryz.f10 [] [] [] lb10=some (t10_0,[]):=by kernel_rfl
def t19_0:T:=
.op (.len) [.v 0] [tI]<|
.call 49 [[.v 0],[.k (.int .i64 1)],[.k (.int .i64 4)]] [[tB]]<|
.op (.not) [.v 0] [tB]<|
.ite (.v 0) (
 .ret [[.k (.bool false)]]) (
 .op (.row 10) [.v 3, .k (.int .i64 0)] [tI,tL 3,tL 1,tI,tI,tL 1,tL 1,tL 5,tL 2,tL 7]<|
 .op (.bin .neq) [.v 9, .k (.int .i64 0)] [tB]<|
 .ite (.v 0) (
 .ret [[.k (.bool false)]]) (
 .go 0 [.v 14, .k (.int .i64 0)]))
def t19_1:T:=
.op (.len) [.v 1] [tI]<|
.op (.bin .lss) [.v 1, .v 0] [tB]<|
.ite (.v 0) (
 .op (.row 10) [.v 3, .v 2] [tI,tL 3,tL 1,tI,tI,tL 1,tL 1,tL 5,tL 2,tL 7]<|
 .call 49 [[.v 9],[.k (.int .i64 0)],[.k (.int .i64 3)]] [[tB]]<|
 .op (.not) [.v 0] [tB]<|
 .ite (.v 0) (
 .ret [[.k (.bool false)]]) (
 .op (.len) [.v 10] [tI]<|
 .op (.bin .gtr) [.v 0, .k (.int .i64 3)] [tB]<|
 .ite (.v 0) (
 .ret [[.k (.bool false)]]) (
 .call 50 [[.v 12]] [[tB]]<|
 .op (.not) [.v 0] [tB]<|
 .ite (.v 0) (
 .ret [[.k (.bool false)]]) (
 .op (.bin .add) [.v 18, .k (.int .i64 1)] [tI]<|
 .go 0 [.v 20, .v 0])))) (
 .go 1 [.v 3, .k (.int .i64 0)])
def t19_2:T:=
.op (.len) [.v 1] [tI]<|
.op (.bin .lss) [.v 1, .v 0] [tB]<|
.ite (.v 0) (
 .op (.row 10) [.v 3, .v 2] [tI,tL 3,tL 1,tI,tI,tL 1,tL 1,tL 5,tL 2,tL 7]<|
 .call 51 [[.v 9, .v 8, .v 7, .v 6, .v 5, .v 4, .v 3, .v 2, .v 1, .v 0]] [[tB]]<|
 .op (.not) [.v 0] [tB]<|
 .ite (.v 0) (
 .ret [[.k (.bool false)]]) (
 .op (.row 10) [.v 15, .v 14] [tI,tL 3,tL 1,tI,tI,tL 1,tL 1,tL 5,tL 2,tL 7]<|
 .call 52 [[.v 25],[.v 24],[.v 6, .v 5, .v 4, .v 3, .v 2, .v 1, .v 0],[.k (.int .i64 1)],[.k (.int .i64 0)]] [[tB]]<|
 .op (.not) [.v 0] [tB]<|
 .ite (.v 0) (
 .ret [[.k (.bool false)]]) (
 .op (.bin .add) [.v 26, .k (.int .i64 1)] [tI]<|
 .go 1 [.v 28, .v 0]))) (
 .call 53 [[.v 3]] [[tL 1]]<|
 .op (.idx 1) [.v 0, .k (.int .i64 0)] [tI]<|
 .op (.at [0]) [.v 1, .v 0] [tI]<|
 .op (.bin .lss) [.v 0, .k (.int .i64 200)] [tB]<|
 .ret [[.v 0]])
def lb19:List (Key×List (Nat×List Ty)):=[(.head 0,[(0,[tL 10]),(3,[tI])]),(.head 2,[(0,[tL 10]),(5,[tI])])]
theorem m19:mt 19 Tryz.f19 [] [] [(67,0,[0],tI)] lb19=some (t19_0,[t19_1,t19_2]):=by kernel_rfl
def t22_0:T:=
.call 59 [[.v 8]] [[tL 3]]<|
.call 60 [[.v 8]] [[tL 1]]<|
.call 61 [[.v 8, .v 7, .v 6, .v 5, .v 4, .v 3, .v 2]] [[tI,tI,tL 1,tL 1,tL 5,tL 2,tL 7]]<|
.ret [[.v 18, .v 8, .v 7, .v 6, .v 5, .v 4, .v 3, .v 2, .v 1, .v 0]]
def lb22:List (Key×List (Nat×List Ty)):=[]
theorem m22:mt 22 Tryz.f22 [] [] [] lb22=some (t22_0,[]):=by kernel_rfl
def t43_0:T:=
.go 0 [.v 1, .v 0, .k (.int .i64 0)]
def t43_1:T:=
.op (.len) [.v 2] [tI]<|
.op (.bin .lss) [.v 1, .v 0] [tB]<|
.ite (.v 0) (
 .op (.row 4) [.v 4, .v 2] [tI,tI,tI,tS]<|
 .op (.bin .neq) [.v 3, .v 7] [tB]<|
 .ite (.v 0) (
 .ret [[.k (.int .i64 (-1))]]) (
 .op (.bin .add) [.v 8, .k (.int .i64 1)] [tI]<|
 .op (.row 4) [.v 10, .v 8] [tI,tI,tI,tS]<|
 .op (.bin .neq) [.v 2, .v 4] [tB]<|
 .ite (.v 0) (
 .ret [[.k (.int .i64 (-1))]]) (
 .op (.bin .add) [.v 5, .k (.int .i64 1)] [tI]<|
 .op (.row 4) [.v 16, .v 14] [tI,tI,tI,tS]<|
 .op (.bin .neq) [.v 1, .v 4] [tB]<|
 .ite (.v 0) (
 .ret [[.k (.int .i64 (-1))]]) (
 .op (.bin .add) [.v 5, .k (.int .i64 1)] [tI]<|
 .op (.row 4) [.v 22, .v 20] [tI,tI,tI,tS]<|
 .call 78 [[.v 4]] [[tS]]<|
 .op (.bin .neq) [.v 1, .v 0] [tB]<|
 .ite (.v 0) (
 .ret [[.k (.int .i64 (-1))]]) (
 .op (.bin .add) [.v 6, .k (.int .i64 1)] [tI]<|
 .op (.bin .add) [.v 27, .k (.int .i64 1)] [tI]<|
 .go 0 [.v 30, .v 1, .v 0]))))) (
 .ret [[.v 3]])
def lb43:List (Key×List (Nat×List Ty)):=[(.head 0,[(0,[tL 4]),(1,[tI]),(5,[tI])])]
theorem m43:mt 43 Tryz.f43 [] [] [] lb43=some (t43_0,[t43_1]):=by kernel_rfl
def t45_0:T:=
.op (.len) [.v 1] [tI]<|
.op (.bin .sub) [.v 1, .v 0] [tI]<|
.op (.bin .lss) [.v 0, .k (.int .i64 0)] [tB]<|
.ite (.v 0) (
 .ret [[.k (.int .i64 (-1))]]) (
 .go 0 [.v 4, .v 1, .k (.int .i64 0)])
def t45_1:T:=
.op (.len) [.v 2] [tI]<|
.op (.bin .lss) [.v 1, .v 0] [tB]<|
.ite (.v 0) (
 .op (.row 3) [.v 4, .v 2] [tI,tI,tS]<|
 .call 80 [[.v 2, .v 1, .v 0],[.v 6]] [[tI]]<|
 .op (.bin .lss) [.v 0, .k (.int .i64 0)] [tB]<|
 .ite (.v 0) (
 .ret [[.k (.int .i64 (-1))]]) (
 .op (.bin .add) [.v 7, .k (.int .i64 1)] [tI]<|
 .go 0 [.v 10, .v 2, .v 0])) (
 .ret [[.v 3]])
def lb45:List (Key×List (Nat×List Ty)):=[(.head 0,[(0,[tL 3]),(1,[tI]),(5,[tI])])]
theorem m45:mt 45 Tryz.f45 [] [] [] lb45=some (t45_0,[t45_1]):=by kernel_rfl
def t73_0:T:=
.op (.bin .neq) [.v 7, .v 3] [tB]<|
.ite (.v 0) (
 .ret [[.k (.bool false)]]) (
 .call 112 [[.v 7, .v 6, .v 5],[.v 3, .v 2, .v 1]] [[tB]]<|
 .op (.not) [.v 0] [tB]<|
 .ite (.v 0) (
 .ret [[.k (.bool false)]]) (
 .ret [[.k (.bool true)]]))
def lb73:List (Key×List (Nat×List Ty)):=[]
theorem m73:mt 73 Tryz.f73 [] [] [] lb73=some (t73_0,[]):=by kernel_rfl
def t84_0:T:=
.op (.len) [.v 1] [tI]<|
.op (.bin .sub) [.v 1, .v 0] [tI]<|
.op (.bin .lss) [.v 0, .k (.int .i64 0)] [tB]<|
.ite (.v 0) (
 .ret [[.k (.int .i64 (-1))]]) (
 .go 0 [.v 4, .v 1, .k (.int .i64 0)])
def t84_1:T:=
.op (.len) [.v 2] [tI]<|
.op (.bin .lss) [.v 1, .v 0] [tB]<|
.ite (.v 0) (
 .op (.row 5) [.v 4, .v 2] [tI,tI,tI,tI,tS]<|
 .call 121 [[.v 4, .v 3, .v 2, .v 1, .v 0],[.v 8]] [[tI]]<|
 .op (.bin .lss) [.v 0, .k (.int .i64 0)] [tB]<|
 .ite (.v 0) (
 .ret [[.k (.int .i64 (-1))]]) (
 .op (.bin .add) [.v 9, .k (.int .i64 1)] [tI]<|
 .go 0 [.v 12, .v 2, .v 0])) (
 .ret [[.v 3]])
def lb84:List (Key×List (Nat×List Ty)):=[(.head 0,[(0,[tL 5]),(1,[tI]),(5,[tI])])]
theorem m84:mt 84 Tryz.f84 [] [] [] lb84=some (t84_0,[t84_1]):=by kernel_rfl
def t93_0:T:=
.call 49 [[.v 1],[.k (.int .i64 0)],[.k (.int .i64 3)]] [[tB]]<|
.ite (.v 0) (
 .call 49 [[.v 1],[.k (.int .i64 0)],[.k (.int .i64 103)]] [[tB]]<|
 .ret [[.v 0]]) (
 .ret [[.k (.bool false)]])
def lb93:List (Key×List (Nat×List Ty)):=[]
theorem m93:mt 93 Tryz.f93 [] [] [] lb93=some (t93_0,[]):=by kernel_rfl
def t97_0:T:=
.go 0 [.v 0, .k (.int .i64 0)]
def t97_1:T:=
.op (.len) [.v 1] [tI]<|
.op (.bin .lss) [.v 1, .v 0] [tB]<|
.ite (.v 0) (
 .go 1 [.v 3, .v 2, .k (.int .i64 0)]) (
 .ret [[.v 3]])
def t97_2:T:=
.op (.bin .lss) [.v 0, .v 1] [tB]<|
.ite (.v 0) (
 .op (.idx 5) [.v 3, .v 2] [tI]<|
 .op (.at [1]) [.v 4, .v 0] [tI]<|
 .op (.bin .neq) [.v 0, .k (.int .i64 (-1))] [tB]<|
 .ite (.v 0) (
 .op (.idx 5) [.v 6, .v 5] [tI]<|
 .op (.at [1]) [.v 7, .v 0] [tI]<|
 .op (.idx 5) [.v 8, .v 6] [tI]<|
 .op (.at [1]) [.v 9, .v 0] [tI]<|
 .op (.bin .eql) [.v 2, .v 0] [tB]<|
 .ite (.v 0) (
 .op (.idx 5) [.v 11, .v 10] [tI]<|
 .op (.putp [] 1 5 true) [.v 12, .v 0, .k (.int .i64 (-1))] [tL 5]<|
 .op (.bin .add) [.v 11, .k (.int .i64 1)] [tI]<|
 .go 1 [.v 1, .v 13, .v 0]) (
 .op (.bin .add) [.v 9, .k (.int .i64 1)] [tI]<|
 .go 1 [.v 12, .v 11, .v 0])) (
 .op (.bin .add) [.v 4, .k (.int .i64 1)] [tI]<|
 .go 1 [.v 7, .v 6, .v 0])) (
 .op (.bin .add) [.v 2, .k (.int .i64 1)] [tI]<|
 .go 0 [.v 4, .v 0])
def lb97:List (Key×List (Nat×List Ty)):=[(.head 0,[(0,[tL 5]),(3,[tI])]),(.head 2,[(0,[tL 5]),(3,[tI]),(4,[tI])])]
theorem m97:mt 97 Tryz.f97 [] [] [(0,0,[1],tI)] lb97=some (t97_0,[t97_1,t97_2]):=by kernel_rfl
def t102_0:T:=
.op (.len) [.v 0] [tI]<|
.op (.mk [.int .i64 0, .int .i64 0, .int .i64 0, .int .i64 0, .str []]) [.v 0] [tL 5]<|
.go 0 [.v 2, .v 0, .k (.int .i64 0)]
def t102_1:T:=
.op (.len) [.v 2] [tI]<|
.op (.bin .lss) [.v 1, .v 0] [tB]<|
.ite (.v 0) (
 .op (.row 5) [.v 4, .v 2] [tI,tI,tI,tI,tS]<|
 .call 131 [[.v 4, .v 3, .v 2, .v 1, .v 0]] [[tI,tI,tI,tI,tS]]<|
 .op (.idx 5) [.v 13, .v 12] [tI]<|
 .op (.putp [] 0 5 true) [.v 14, .v 0, .v 5, .v 4, .v 3, .v 2, .v 1] [tL 5]<|
 .op (.bin .add) [.v 14, .k (.int .i64 1)] [tI]<|
 .go 0 [.v 17, .v 1, .v 0]) (
 .ret [[.v 3]])
def lb102:List (Key×List (Nat×List Ty)):=[(.head 0,[(0,[tL 5]),(3,[tL 5]),(4,[tI])])]
theorem m102:mt 102 Tryz.f102 [] [] [] lb102=some (t102_0,[t102_1]):=by kernel_rfl
def t106_0:T:=
.call 63 [[.v 2],[.k (.int .i64 0)],[.k (.int .i64 3)]] [[tB]]<|
.ite (.v 0) (
 .call 63 [[.v 2],[.k (.int .i64 0)],[.k (.int .i64 3)]] [[tB]]<|
 .ite (.v 0) (
 .call 63 [[.v 2],[.k (.int .i64 0)],[.k (.int .i64 4)]] [[tB]]<|
 .ite (.v 0) (
 .call 133 [[.v 6],[.v 5],[.v 4],[.v 3]] [[tB]]<|
 .ret [[.v 0]]) (
 .ret [[.k (.bool false)]])) (
 .ret [[.k (.bool false)]])) (
 .ret [[.k (.bool false)]])
def lb106:List (Key×List (Nat×List Ty)):=[]
theorem m106:mt 106 Tryz.f106 [] [] [] lb106=some (t106_0,[]):=by kernel_rfl
def t126_0:T:=
.go 0 [.v 1, .v 0, .k (.int .i64 0)]
def t126_1:T:=
.op (.len) [.v 2] [tI]<|
.op (.bin .lss) [.v 1, .v 0] [tB]<|
.ite (.v 0) (
 .op (.row 2) [.v 4, .v 2] [tI,tI]<|
 .call 49 [[.v 1],[.k (.int .i64 0)],[.k (.int .i64 2)]] [[tB]]<|
 .op (.not) [.v 0] [tB]<|
 .ite (.v 0) (
 .ret [[.k (.bool false)]]) (
 .op (.row 2) [.v 8, .v 6] [tI,tI]<|
 .op (.bin .sub) [.v 9, .k (.int .i64 1)] [tI]<|
 .call 49 [[.v 1],[.k (.int .i64 0)],[.v 0]] [[tB]]<|
 .op (.not) [.v 0] [tB]<|
 .ite (.v 0) (
 .ret [[.k (.bool false)]]) (
 .op (.bin .gtr) [.v 11, .k (.int .i64 0)] [tB]<|
 .ite (.v 0) (
 .op (.row 2) [.v 14, .v 12] [tI,tI]<|
 .op (.bin .sub) [.v 14, .k (.int .i64 1)] [tI]<|
 .op (.row 2) [.v 17, .v 0] [tI,tI]<|
 .op (.bin .leq) [.v 4, .v 1] [tB]<|
 .ite (.v 0) (
 .ret [[.k (.bool false)]]) (
 .op (.bin .add) [.v 18, .k (.int .i64 1)] [tI]<|
 .go 0 [.v 21, .v 20, .v 0])) (
 .op (.bin .add) [.v 12, .k (.int .i64 1)] [tI]<|
 .go 0 [.v 15, .v 14, .v 0])))) (
 .ret [[.k (.bool true)]])
def lb126:List (Key×List (Nat×List Ty)):=[(.head 0,[(0,[tL 2]),(1,[tI]),(5,[tI])])]
theorem m126:mt 126 Tryz.f126 [] [] [] lb126=some (t126_0,[t126_1]):=by kernel_rfl
def t128_0:T:=
.op (.lit 2 []) [] [tL 2]<|
.op (.app 2 true) [.v 0, .v 3] [tL 2]<|
.op (.lit 2 [2]) [.v 3, .v 2] [tL 2]<|
.op (.app 2 true) [.v 1, .v 0] [tL 2]<|
.ret [[.v 0]]
def lb128:List (Key×List (Nat×List Ty)):=[]
theorem m128:mt 128 Tryz.f128 [] [] [] lb128=some (t128_0,[]):=by kernel_rfl
def t137_0:T:=
.op (.lit 3 []) [] [tL 3]<|
.op (.len) [.v 5] [tI]<|
.go 0 [.v 5, .v 4, .v 3, .v 2, .k (.int .i64 0), .k (.int .i64 0), .k (.str []), .v 1, .v 6, .v 0, .k (.int .i64 0)]
def t137_1:T:=
.op (.bin .lss) [.v 0, .v 1] [tB]<|
.ite (.v 0) (
 .op (.row 5) [.v 3, .v 1] [tI,tI,tI,tI,tS]<|
 .op (.len) [.v 9] [tI]<|
 .op (.bin .eql) [.v 5, .k (.int .i64 0)] [tB]<|
 .ite (.v 0) (
 .op (.lit 3 [3]) [.v 4, .v 3, .v 2] [tL 3]<|
 .op (.app 3 true) [.v 12, .v 0] [tL 3]<|
 .op (.bin .add) [.v 10, .k (.int .i64 1)] [tI]<|
 .go 0 [.v 21, .v 20, .v 19, .v 18, .v 17, .v 16, .v 15, .v 1, .v 13, .v 12, .v 0]) (
 .op (.bin .eql) [.v 6, .k (.int .i64 1)] [tB]<|
 .ite (.v 0) (
 .op (.row 3) [.v 19, .v 6] [tI,tI,tS]<|
 .op (.lit 3 [3]) [.v 2, .v 1, .v 0] [tL 3]<|
 .op (.app 3 true) [.v 16, .v 0] [tL 3]<|
 .op (.bin .add) [.v 14, .k (.int .i64 1)] [tI]<|
 .go 0 [.v 25, .v 24, .v 23, .v 22, .v 21, .v 20, .v 19, .v 1, .v 17, .v 16, .v 0]) (
 .op (.bin .eql) [.v 7, .k (.int .i64 2)] [tB]<|
 .ite (.v 0) (
 .op (.row 3) [.v 19, .v 7] [tI,tI,tS]<|
 .op (.lit 3 [3]) [.v 2, .v 1, .v 0] [tL 3]<|
 .op (.app 3 true) [.v 17, .v 0] [tL 3]<|
 .op (.bin .add) [.v 15, .k (.int .i64 1)] [tI]<|
 .go 0 [.v 26, .v 25, .v 24, .v 23, .v 22, .v 21, .v 20, .v 1, .v 18, .v 17, .v 0]) (
 .op (.bin .eql) [.v 8, .k (.int .i64 3)] [tB]<|
 .ite (.v 0) (
 .op (.len) [.v 19] [tI]<|
 .op (.bin .sub) [.v 0, .k (.int .i64 1)] [tI]<|
 .op (.bin .sub) [.v 0, .v 10] [tI]<|
 .op (.row 1) [.v 22, .v 0] [tI]<|
 .call 153 [[.v 0]] [[tI,tI,tS]]<|
 .op (.lit 3 [3]) [.v 2, .v 1, .v 0] [tL 3]<|
 .op (.app 3 true) [.v 22, .v 0] [tL 3]<|
 .op (.bin .add) [.v 20, .k (.int .i64 1)] [tI]<|
 .go 0 [.v 31, .v 30, .v 29, .v 28, .v 27, .v 26, .v 25, .v 1, .v 23, .v 22, .v 0]) (
 .op (.bin .eql) [.v 9, .k (.int .i64 4)] [tB]<|
 .ite (.v 0) (
 .op (.row 3) [.v 19, .v 9] [tI,tI,tS]<|
 .op (.lit 3 [3]) [.v 2, .v 1, .v 0] [tL 3]<|
 .op (.app 3 true) [.v 19, .v 0] [tL 3]<|
 .op (.bin .add) [.v 17, .k (.int .i64 1)] [tI]<|
 .go 0 [.v 28, .v 27, .v 26, .v 25, .v 24, .v 23, .v 22, .v 1, .v 20, .v 19, .v 0]) (
 .op (.bin .eql) [.v 10, .k (.int .i64 5)] [tB]<|
 .ite (.v 0) (
 .op (.bin .sub) [.v 6, .k (.int .i64 2)] [tI]<|
 .op (.sub 3 false true) [.v 17, .v 0] [tL 3]<|
 .op (.bin .sub) [.v 8, .k (.int .i64 2)] [tI]<|
 .op (.idx 3) [.v 19, .v 0] [tI]<|
 .op (.at [0]) [.v 20, .v 0] [tI]<|
 .op (.at [1]) [.v 21, .v 1] [tI]<|
 .op (.at [2]) [.v 22, .v 2] [tS]<|
 .op (.bin .sub) [.v 13, .k (.int .i64 1)] [tI]<|
 .op (.idx 3) [.v 24, .v 0] [tI]<|
 .op (.at [0]) [.v 25, .v 0] [tI]<|
 .op (.at [1]) [.v 26, .v 1] [tI]<|
 .op (.at [2]) [.v 27, .v 2] [tS]<|
 .call 154 [[.v 22],[.v 7, .v 6, .v 5],[.v 2, .v 1, .v 0]] [[tI,tI,tS]]<|
 .op (.lit 3 [3]) [.v 2, .v 1, .v 0] [tL 3]<|
 .op (.app 3 true) [.v 14, .v 0] [tL 3]<|
 .op (.bin .add) [.v 30, .k (.int .i64 1)] [tI]<|
 .go 0 [.v 41, .v 40, .v 39, .v 38, .v 37, .v 36, .v 35, .v 1, .v 33, .v 32, .v 0]) (
 .op (.bin .eql) [.v 11, .k (.int .i64 6)] [tB]<|
 .ite (.v 0) (
 .op (.bin .sub) [.v 7, .k (.int .i64 1)] [tI]<|
 .op (.idx 3) [.v 18, .v 0] [tI]<|
 .op (.at [0]) [.v 19, .v 0] [tI]<|
 .op (.at [1]) [.v 20, .v 1] [tI]<|
 .op (.at [2]) [.v 21, .v 2] [tS]<|
 .op (.bin .sub) [.v 12, .k (.int .i64 3)] [tI]<|
 .op (.idx 3) [.v 23, .v 0] [tI]<|
 .op (.at [0]) [.v 24, .v 0] [tI]<|
 .op (.at [1]) [.v 25, .v 1] [tI]<|
 .op (.at [2]) [.v 26, .v 2] [tS]<|
 .call 140 [[.v 2, .v 1, .v 0]] [[tB]]<|
 .ite (.v 0) (
 .op (.bin .sub) [.v 18, .k (.int .i64 2)] [tI]<|
 .op (.idx 3) [.v 29, .v 0] [tI]<|
 .op (.at [0]) [.v 30, .v 0] [tI]<|
 .op (.at [1]) [.v 31, .v 1] [tI]<|
 .op (.at [2]) [.v 32, .v 2] [tS]<|
 .op (.bin .sub) [.v 23, .k (.int .i64 3)] [tI]<|
 .op (.sub 3 false true) [.v 34, .v 0] [tL 3]<|
 .op (.lit 3 [3]) [.v 4, .v 3, .v 2] [tL 3]<|
 .op (.app 3 true) [.v 1, .v 0] [tL 3]<|
 .op (.bin .add) [.v 34, .k (.int .i64 1)] [tI]<|
 .go 0 [.v 45, .v 44, .v 43, .v 42, .v 41, .v 40, .v 39, .v 1, .v 37, .v 36, .v 0]) (
 .op (.bin .sub) [.v 18, .k (.int .i64 3)] [tI]<|
 .op (.sub 3 false true) [.v 29, .v 0] [tL 3]<|
 .op (.lit 3 [3]) [.v 10, .v 9, .v 8] [tL 3]<|
 .op (.app 3 true) [.v 1, .v 0] [tL 3]<|
 .op (.bin .add) [.v 29, .k (.int .i64 1)] [tI]<|
 .go 0 [.v 40, .v 39, .v 38, .v 37, .v 36, .v 35, .v 34, .v 1, .v 32, .v 31, .v 0])) (
 .op (.bin .add) [.v 14, .k (.int .i64 1)] [tI]<|
 .go 0 [.v 25, .v 24, .v 23, .v 22, .v 21, .v 20, .v 19, .v 18, .v 17, .v 16, .v 0])))))))) (
 .op (.idx 3) [.v 4, .k (.int .i64 0)] [tI]<|
 .op (.at [0]) [.v 5, .v 0] [tI]<|
 .op (.at [1]) [.v 6, .v 1] [tI]<|
 .op (.at [2]) [.v 7, .v 2] [tS]<|
 .ret [[.v 2, .v 1, .v 0]])
def lb137:List (Key×List (Nat×List Ty)):=[(.head 0,[(3,[tL 3,tL 3,tL 1,tL 3]),(4,[tI,tI,tS]),(5,[tL 3]),(11,[tL 5]),(12,[tI]),(13,[tI])])]
theorem m137:mt 137 Tryz.f137 [] [] [(5,0,[0],tI),(5,0,[1],tI),(5,0,[2],tS)] lb137=some (t137_0,[t137_1]):=by kernel_rfl
def t138_0:T:=
.call 108 [[.v 2, .v 1, .v 0]] [[tB]]<|
.op (.not) [.v 0] [tB]<|
.ite (.v 0) (
 .ret [[.k (.str [])]]) (
 .op (.bin .eql) [.v 4, .k (.int .i64 0)] [tB]<|
 .ite (.v 0) (
 .ret [[.k (.str [])]]) (
 .op (.bin .eql) [.v 5, .k (.int .i64 1)] [tB]<|
 .ite (.v 0) (
 .call 155 [[.v 5]] [[tS]]<|
 .ret [[.v 0]]) (
 .ret [[.v 4]])))
def lb138:List (Key×List (Nat×List Ty)):=[]
theorem m138:mt 138 Tryz.f138 [] [] [] lb138=some (t138_0,[]):=by kernel_rfl
def t160_0:T:=
.op (.bin .eql) [.v 2, .k (.int .i64 1)] [tB]<|
.ite (.v 0) (
 .call 49 [[.v 2],[.k (.int .i64 0)],[.k (.int .i64 99)]] [[tB]]<|
 .ite (.v 0) (
 .ret [[.v 3]]) (
 .ret [[.k (.int .i64 (-1))]])) (
 .ret [[.k (.int .i64 (-1))]])
def lb160:List (Key×List (Nat×List Ty)):=[]
theorem m160:mt 160 Tryz.f160 [] [] [] lb160=some (t160_0,[]):=by kernel_rfl
def t162_0:T:=
.ite (.v 0) (
 .call 153 [[.k (.int .i64 1)]] [[tI,tI,tS]]<|
 .ret [[.v 2, .v 1, .v 0]]) (
 .call 153 [[.k (.int .i64 0)]] [[tI,tI,tS]]<|
 .ret [[.v 2, .v 1, .v 0]])
def lb162:List (Key×List (Nat×List Ty)):=[]
theorem m162:mt 162 Tryz.f162 [] [] [] lb162=some (t162_0,[]):=by kernel_rfl
end Go.Own
