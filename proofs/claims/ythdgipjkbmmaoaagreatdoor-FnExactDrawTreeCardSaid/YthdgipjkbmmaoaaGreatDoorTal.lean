/- A part of the proof that the last text of this folder tells of. -/
import Derived.Test.YthdgipjkbmmaoaaGreatDoorTae
import Derived.Test.YthdgipjkbmmaoaaGreatDoorTak
set_option maxRecDepth 100000
namespace Go.Own
open Go Go.Proofs
def t17_0:T:=
.call 45 [[.v 9],[.v 0]] [[tI]]<|
.op (.bin .lss) [.v 0, .k (.int .i64 0)] [tB]<|
.ite (.v 0) (
 .ret [[.k (.int .i64 (-1))]]) (
 .call 46 [[.v 10],[.v 1]] [[tI]]<|
 .op (.bin .lss) [.v 0, .k (.int .i64 0)] [tB]<|
 .ite (.v 0) (
 .ret [[.k (.int .i64 (-1))]]) (
 .call 47 [[.v 11, .v 10, .v 9, .v 8, .v 7, .v 6, .v 5],[.v 1]] [[tI]]<|
 .op (.bin .lss) [.v 0, .k (.int .i64 0)] [tB]<|
 .ite (.v 0) (
 .ret [[.k (.int .i64 (-1))]]) (
 .ret [[.v 1]])))
def lb17:List (Key×List (Nat×List Ty)):=[]
theorem m17:mt 17 Tryz.f17 [] [] [] lb17=some (t17_0,[]):=by kernel_rfl
def t23_0:T:=
.call 62 [[.v 1]] [[tL 2]]<|
.call 59 [[.v 1]] [[tL 3]]<|
.ret [[.v 1, .v 0]]
def lb23:List (Key×List (Nat×List Ty)):=[]
theorem m23:mt 23 Tryz.f23 [] [] [] lb23=some (t23_0,[]):=by kernel_rfl
def t25_0:T:=
.op (.len) [.v 0] [tI]<|
.go 0 [.v 1, .v 1, .v 0, .k (.int .i64 0)]
def t25_1:T:=
.op (.bin .lss) [.v 0, .v 1] [tB]<|
.ite (.v 0) (
 .op (.row 2) [.v 3, .v 1] [tL 2,tL 3]<|
 .call 67 [[.v 1]] [[tB]]<|
 .op (.not) [.v 0] [tB]<|
 .ite (.v 0) (
 .ret [[.k (.bool false)]]) (
 .op (.len) [.v 2] [tI]<|
 .op (.bin .gtr) [.v 0, .k (.int .i64 3)] [tB]<|
 .ite (.v 0) (
 .ret [[.k (.bool false)]]) (
 .call 68 [[.v 4]] [[tB]]<|
 .op (.not) [.v 0] [tB]<|
 .ite (.v 0) (
 .ret [[.k (.bool false)]]) (
 .op (.bin .gtr) [.v 9, .k (.int .i64 0)] [tB]<|
 .ite (.v 0) (
 .op (.bin .sub) [.v 10, .k (.int .i64 1)] [tI]<|
 .op (.row 2) [.v 14, .v 0] [tL 2,tL 3]<|
 .call 69 [[.v 1],[.v 11]] [[tI]]<|
 .op (.bin .geq) [.v 0, .k (.int .i64 0)] [tB]<|
 .ite (.v 0) (
 .ret [[.k (.bool false)]]) (
 .op (.bin .add) [.v 15, .k (.int .i64 1)] [tI]<|
 .go 0 [.v 19, .v 18, .v 17, .v 0])) (
 .op (.bin .add) [.v 10, .k (.int .i64 1)] [tI]<|
 .go 0 [.v 14, .v 13, .v 12, .v 0]))))) (
 .op (.len) [.v 4] [tI]<|
 .op (.bin .leq) [.v 0, .k (.int .i64 200)] [tB]<|
 .ret [[.v 0]])
def lb25:List (Key×List (Nat×List Ty)):=[(.head 0,[(0,[tL 2]),(5,[tL 2]),(6,[tI]),(7,[tI])])]
theorem m25:mt 25 Tryz.f25 [] [] [] lb25=some (t25_0,[t25_1]):=by kernel_rfl
def t28_0:T:=
.op (.mk [.int .i64 0, .int .i64 0, .str []]) [.k (.int .i64 2)] [tL 3]<|
.ret [[.k (.sl 2 []), .k (.int .i64 0), .k (.sl 3 []), .v 0]]
def lb28:List (Key×List (Nat×List Ty)):=[]
theorem m28:mt 28 Tryz.f28 [] [] [] lb28=some (t28_0,[]):=by kernel_rfl
def t31_0:T:=
.op (.bin .neq) [.v 19, .v 9] [tB]<|
.ite (.v 0) (
 .ret [[.k (.bool false)]]) (
 .call 74 [[.v 19],[.v 9]] [[tB]]<|
 .op (.not) [.v 0] [tB]<|
 .ite (.v 0) (
 .ret [[.k (.bool false)]]) (
 .call 75 [[.v 20],[.v 10]] [[tB]]<|
 .op (.not) [.v 0] [tB]<|
 .ite (.v 0) (
 .ret [[.k (.bool false)]]) (
 .call 76 [[.v 21, .v 20, .v 19, .v 18, .v 17, .v 16, .v 15],[.v 11, .v 10, .v 9, .v 8, .v 7, .v 6, .v 5]] [[tB]]<|
 .op (.not) [.v 0] [tB]<|
 .ite (.v 0) (
 .ret [[.k (.bool false)]]) (
 .ret [[.k (.bool true)]]))))
def lb31:List (Key×List (Nat×List Ty)):=[]
theorem m31:mt 31 Tryz.f31 [] [] [] lb31=some (t31_0,[]):=by kernel_rfl
def t32_0:T:=
.call 77 [[.v 3],[.v 1]] [[tB]]<|
.op (.not) [.v 0] [tB]<|
.ite (.v 0) (
 .ret [[.k (.bool false)]]) (
 .call 74 [[.v 4],[.v 2]] [[tB]]<|
 .op (.not) [.v 0] [tB]<|
 .ite (.v 0) (
 .ret [[.k (.bool false)]]) (
 .ret [[.k (.bool true)]]))
def lb32:List (Key×List (Nat×List Ty)):=[]
theorem m32:mt 32 Tryz.f32 [] [] [] lb32=some (t32_0,[]):=by kernel_rfl
def t36_0:T:=
.go 0 [.v 1, .v 0, .k (.int .i64 0)]
def t36_1:T:=
.op (.len) [.v 2] [tI]<|
.op (.bin .lss) [.v 1, .v 0] [tB]<|
.ite (.v 0) (
 .op (.idx 1) [.v 4, .v 2] [tI]<|
 .op (.at [0]) [.v 5, .v 0] [tL 5]<|
 .op (.at [0]) [.v 6, .v 1] [tL 5]<|
 .op (.hole [0]) [.v 7, .v 2] [tL 1]<|
 .call 37 [[.v 1],[.v 7]] [[tI],[tL 5]]<|
 .op (.setAt [0]) [.v 2, .v 0, .v 5] [tL 1]<|
 .op (.bin .add) [.v 9, .k (.int .i64 1)] [tI]<|
 .go 0 [.v 1, .v 3, .v 0]) (
 .ret [[.v 3],[.v 4]])
def lb36:List (Key×List (Nat×List Ty)):=[(.head 0,[(0,[tL 1]),(1,[tI]),(5,[tI])])]
theorem m36:mt 36 Tryz.f36 [] [] [(0,0,[0],tL 5)] lb36=some (t36_0,[t36_1]):=by kernel_rfl
def t38_0:T:=
.go 0 [.v 1, .v 0, .k (.int .i64 0)]
def t38_1:T:=
.op (.len) [.v 2] [tI]<|
.op (.bin .lss) [.v 1, .v 0] [tB]<|
.ite (.v 0) (
 .op (.idx 2) [.v 4, .v 2] [tI]<|
 .op (.putp [] 0 2 true) [.v 5, .v 0, .v 4] [tL 2]<|
 .op (.bin .add) [.v 5, .k (.int .i64 1)] [tI]<|
 .op (.idx 2) [.v 1, .v 5] [tI]<|
 .op (.putp [] 1 2 true) [.v 2, .v 0, .v 1] [tL 2]<|
 .op (.bin .add) [.v 2, .k (.int .i64 1)] [tI]<|
 .op (.bin .add) [.v 8, .k (.int .i64 1)] [tI]<|
 .go 0 [.v 2, .v 1, .v 0]) (
 .ret [[.v 3],[.v 4]])
def lb38:List (Key×List (Nat×List Ty)):=[(.head 0,[(0,[tL 2]),(1,[tI]),(5,[tI])])]
theorem m38:mt 38 Tryz.f38 [] [] [] lb38=some (t38_0,[t38_1]):=by kernel_rfl
def t55_0:T:=
.go 0 [.v 1, .v 0, .k (.int .i64 0)]
def t55_1:T:=
.op (.len) [.v 2] [tI]<|
.op (.bin .lss) [.v 1, .v 0] [tB]<|
.ite (.v 0) (
 .op (.len) [.v 3] [tI]<|
 .op (.bin .lss) [.v 3, .v 0] [tB]<|
 .ite (.v 0) (
 .op (.row 2) [.v 6, .v 4] [tI,tI]<|
 .op (.row 2) [.v 7, .v 6] [tI,tI]<|
 .op (.bin .lss) [.v 3, .v 1] [tB]<|
 .ite (.v 0) (
 .ret [[.k (.int .i64 (-1))]]) (
 .op (.row 2) [.v 11, .v 9] [tI,tI]<|
 .op (.row 2) [.v 12, .v 11] [tI,tI]<|
 .op (.bin .eql) [.v 3, .v 1] [tB]<|
 .ite (.v 0) (
 .op (.row 2) [.v 16, .v 14] [tI,tI]<|
 .op (.row 2) [.v 17, .v 16] [tI,tI]<|
 .op (.bin .lss) [.v 2, .v 0] [tB]<|
 .ite (.v 0) (
 .ret [[.k (.int .i64 (-1))]]) (
 .op (.row 2) [.v 21, .v 19] [tI,tI]<|
 .op (.row 2) [.v 22, .v 21] [tI,tI]<|
 .op (.eqs true 2 [.int .i64 0, .int .i64 0]) [.v 3, .v 2, .v 1, .v 0] [tB]<|
 .ite (.v 0) (
 .ret [[.k (.int .i64 1)]]) (
 .op (.bin .add) [.v 24, .k (.int .i64 1)] [tI]<|
 .go 0 [.v 27, .v 26, .v 0]))) (
 .op (.row 2) [.v 16, .v 14] [tI,tI]<|
 .op (.row 2) [.v 17, .v 16] [tI,tI]<|
 .op (.eqs true 2 [.int .i64 0, .int .i64 0]) [.v 3, .v 2, .v 1, .v 0] [tB]<|
 .ite (.v 0) (
 .ret [[.k (.int .i64 1)]]) (
 .op (.bin .add) [.v 19, .k (.int .i64 1)] [tI]<|
 .go 0 [.v 22, .v 21, .v 0])))) (
 .go 1 [.v 6, .v 5])) (
 .go 1 [.v 4, .v 3])
def t55_2:T:=
.op (.len) [.v 1] [tI]<|
.op (.len) [.v 1] [tI]<|
.op (.bin .lss) [.v 1, .v 0] [tB]<|
.ite (.v 0) (
 .ret [[.k (.int .i64 (-1))]]) (
 .op (.len) [.v 4] [tI]<|
 .op (.len) [.v 4] [tI]<|
 .op (.bin .gtr) [.v 1, .v 0] [tB]<|
 .ite (.v 0) (
 .ret [[.k (.int .i64 1)]]) (
 .ret [[.k (.int .i64 0)]]))
def lb55:List (Key×List (Nat×List Ty)):=[(.head 0,[(0,[tL 2]),(1,[tL 2]),(5,[tI])]),(.after 0,[(0,[tL 2]),(1,[tL 2])])]
theorem m55:mt 55 Tryz.f55 [] [] [] lb55=some (t55_0,[t55_1,t55_2]):=by kernel_rfl
def t66_0:T:=
.op (.len) [.v 0] [tI]<|
.go 0 [.v 8, .v 7, .v 6, .v 5, .v 4, .v 3, .v 2, .v 1, .k (.int .i64 0), .v 1, .v 0, .k (.int .i64 0)]
def t66_1:T:=
.op (.bin .lss) [.v 0, .v 1] [tB]<|
.ite (.v 0) (
 .op (.row 7) [.v 3, .v 1] [tI,tI,tL 1,tL 1,tL 5,tL 2,tL 7]<|
 .call 66 [[.v 19],[.v 6, .v 5, .v 4, .v 3, .v 2, .v 1, .v 0]] [[tI]]<|
 .op (.bin .add) [.v 12, .v 0] [tI]<|
 .op (.bin .add) [.v 10, .k (.int .i64 1)] [tI]<|
 .go 0 [.v 22, .v 21, .v 20, .v 19, .v 18, .v 17, .v 16, .v 15, .v 1, .v 13, .v 12, .v 0]) (
 .op (.bin .eql) [.v 11, .k (.int .i64 3)] [tB]<|
 .ite (.v 0) (
 .op (.bin .mul) [.v 5, .k (.int .i64 4)] [tI]<|
 .op (.bin .add) [.v 0, .k (.int .i64 1)] [tI]<|
 .ret [[.v 0]]) (
 .op (.bin .eql) [.v 12, .k (.int .i64 4)] [tB]<|
 .ite (.v 0) (
 .op (.row 10) [.v 14, .v 12] [tI,tL 3,tL 1,tI,tI,tL 1,tL 1,tL 5,tL 2,tL 7]<|
 .call 66 [[.v 24],[.v 6, .v 5, .v 4, .v 3, .v 2, .v 1, .v 0]] [[tI]]<|
 .op (.bin .add) [.v 17, .v 0] [tI]<|
 .op (.bin .add) [.v 0, .k (.int .i64 1)] [tI]<|
 .ret [[.v 0]]) (
 .op (.bin .add) [.v 6, .k (.int .i64 1)] [tI]<|
 .ret [[.v 0]])))
def lb66:List (Key×List (Nat×List Ty)):=[(.head 0,[(0,[tL 10]),(3,[tI,tI,tL 1,tL 1,tL 5,tL 2,tL 7]),(5,[tI]),(9,[tL 7]),(10,[tI]),(11,[tI])])]
theorem m66:mt 66 Tryz.f66 [] [] [] lb66=some (t66_0,[t66_1]):=by kernel_rfl
def t69_0:T:=
.op (.len) [.v 1] [tI]<|
.op (.len) [.v 1] [tI]<|
.op (.mm false) [.v 1, .v 0] [tI]<|
.go 0 [.v 4, .v 3, .v 0, .k (.int .i64 0)]
def t69_1:T:=
.op (.bin .lss) [.v 0, .v 1] [tB]<|
.ite (.v 0) (
 .op (.row 2) [.v 4, .v 1] [tI,tI]<|
 .op (.row 2) [.v 5, .v 3] [tI,tI]<|
 .op (.eqs false 2 [.int .i64 0, .int .i64 0]) [.v 3, .v 2, .v 1, .v 0] [tB]<|
 .ite (.v 0) (
 .op (.bin .add) [.v 6, .k (.int .i64 1)] [tI]<|
 .go 0 [.v 10, .v 9, .v 8, .v 0]) (
 .op (.bin .lss) [.v 4, .v 2] [tB]<|
 .ite (.v 0) (
 .ret [[.k (.int .i64 (-1))]]) (
 .op (.bin .eql) [.v 5, .v 3] [tB]<|
 .ite (.v 0) (
 .op (.bin .lss) [.v 5, .v 3] [tB]<|
 .ite (.v 0) (
 .ret [[.k (.int .i64 (-1))]]) (
 .ret [[.k (.int .i64 1)]])) (
 .ret [[.k (.int .i64 1)]])))) (
 .op (.len) [.v 4] [tI]<|
 .op (.len) [.v 4] [tI]<|
 .op (.bin .lss) [.v 1, .v 0] [tB]<|
 .ite (.v 0) (
 .ret [[.k (.int .i64 (-1))]]) (
 .op (.len) [.v 7] [tI]<|
 .op (.len) [.v 7] [tI]<|
 .op (.bin .gtr) [.v 1, .v 0] [tB]<|
 .ite (.v 0) (
 .ret [[.k (.int .i64 1)]]) (
 .ret [[.k (.int .i64 0)]])))
def lb69:List (Key×List (Nat×List Ty)):=[(.head 0,[(0,[tL 2]),(1,[tL 2]),(12,[tI]),(13,[tI])])]
theorem m69:mt 69 Tryz.f69 [] [] [] lb69=some (t69_0,[t69_1]):=by kernel_rfl
def t81_0:T:=
.op (.len) [.v 1] [tI]<|
.op (.bin .sub) [.v 1, .v 0] [tI]<|
.op (.bin .lss) [.v 0, .k (.int .i64 0)] [tB]<|
.ite (.v 0) (
 .ret [[.k (.int .i64 (-1))]]) (
 .go 0 [.v 4, .v 1, .k (.int .i64 0)])
def t81_1:T:=
.op (.len) [.v 2] [tI]<|
.op (.bin .lss) [.v 1, .v 0] [tB]<|
.ite (.v 0) (
 .op (.row 2) [.v 4, .v 2] [tI,tL 5]<|
 .call 120 [[.v 1, .v 0],[.v 5]] [[tI]]<|
 .op (.bin .lss) [.v 0, .k (.int .i64 0)] [tB]<|
 .ite (.v 0) (
 .ret [[.k (.int .i64 (-1))]]) (
 .op (.bin .add) [.v 6, .k (.int .i64 1)] [tI]<|
 .go 0 [.v 9, .v 2, .v 0])) (
 .ret [[.v 3]])
def lb81:List (Key×List (Nat×List Ty)):=[(.head 0,[(0,[tL 2]),(1,[tI]),(5,[tI])])]
theorem m81:mt 81 Tryz.f81 [] [] [] lb81=some (t81_0,[t81_1]):=by kernel_rfl
def t87_0:T:=
.op (.bin .eql) [.v 2, .k (.int .i64 0)] [tB]<|
.ite (.v 0) (
 .op (.bin .eql) [.v 2, .k (.int .i64 0)] [tB]<|
 .ite (.v 0) (
 .op (.bin .eql) [.v 2, .k (.str [])] [tB]<|
 .ret [[.v 0]]) (
 .ret [[.k (.bool false)]])) (
 .op (.bin .eql) [.v 3, .k (.int .i64 1)] [tB]<|
 .ite (.v 0) (
 .call 49 [[.v 3],[.k (.int .i64 (-1000))],[.k (.int .i64 1000)]] [[tB]]<|
 .ite (.v 0) (
 .op (.bin .eql) [.v 3, .k (.str [])] [tB]<|
 .ret [[.v 0]]) (
 .ret [[.k (.bool false)]])) (
 .op (.bin .eql) [.v 4, .k (.int .i64 2)] [tB]<|
 .ite (.v 0) (
 .op (.bin .eql) [.v 4, .k (.int .i64 0)] [tB]<|
 .ite (.v 0) (
 .call 122 [[.v 4]] [[tB]]<|
 .ret [[.v 0]]) (
 .ret [[.k (.bool false)]])) (
 .ret [[.k (.bool false)]])))
def lb87:List (Key×List (Nat×List Ty)):=[]
theorem m87:mt 87 Tryz.f87 [] [] [] lb87=some (t87_0,[]):=by kernel_rfl
def t99_0:T:=
.op (.len) [.v 0] [tI]<|
.op (.mk [.int .i64 0, .sl 5 []]) [.v 0] [tL 2]<|
.go 0 [.v 2, .v 0, .k (.int .i64 0)]
def t99_1:T:=
.op (.len) [.v 2] [tI]<|
.op (.bin .lss) [.v 1, .v 0] [tB]<|
.ite (.v 0) (
 .op (.row 2) [.v 4, .v 2] [tI,tL 5]<|
 .call 130 [[.v 1, .v 0]] [[tI,tL 5]]<|
 .op (.idx 2) [.v 7, .v 6] [tI]<|
 .op (.putp [] 0 2 false) [.v 8, .v 0, .v 2, .v 1] [tL 2]<|
 .op (.bin .add) [.v 8, .k (.int .i64 1)] [tI]<|
 .go 0 [.v 11, .v 1, .v 0]) (
 .ret [[.v 3]])
def lb99:List (Key×List (Nat×List Ty)):=[(.head 0,[(0,[tL 2]),(3,[tL 2]),(4,[tI])])]
theorem m99:mt 99 Tryz.f99 [] [] [] lb99=some (t99_0,[t99_1]):=by kernel_rfl
def t111_0:T:=
.op (.lit 2 []) [] [tL 2]<|
.op (.app 2 true) [.v 0, .v 3] [tL 2]<|
.op (.lit 2 [2]) [.v 3, .v 2] [tL 2]<|
.op (.app 2 true) [.v 1, .v 0] [tL 2]<|
.ret [[.v 0]]
def lb111:List (Key×List (Nat×List Ty)):=[]
theorem m111:mt 111 Tryz.f111 [] [] [] lb111=some (t111_0,[]):=by kernel_rfl
def t118_0:T:=
.op (.len) [.v 1] [tI]<|
.op (.len) [.v 1] [tI]<|
.op (.bin .neq) [.v 1, .v 0] [tB]<|
.ite (.v 0) (
 .ret [[.k (.bool false)]]) (
 .go 0 [.v 4, .v 3, .k (.int .i64 0)])
def t118_1:T:=
.op (.len) [.v 2] [tI]<|
.op (.bin .lss) [.v 1, .v 0] [tB]<|
.ite (.v 0) (
 .op (.row 7) [.v 4, .v 2] [tI,tI,tL 1,tL 1,tL 5,tL 2,tL 7]<|
 .op (.row 7) [.v 10, .v 9] [tI,tI,tL 1,tL 1,tL 5,tL 2,tL 7]<|
 .call 76 [[.v 13, .v 12, .v 11, .v 10, .v 9, .v 8, .v 7],[.v 6, .v 5, .v 4, .v 3, .v 2, .v 1, .v 0]] [[tB]]<|
 .op (.not) [.v 0] [tB]<|
 .ite (.v 0) (
 .ret [[.k (.bool false)]]) (
 .op (.bin .add) [.v 18, .k (.int .i64 1)] [tI]<|
 .go 0 [.v 21, .v 20, .v 0])) (
 .ret [[.k (.bool true)]])
def lb118:List (Key×List (Nat×List Ty)):=[(.head 0,[(0,[tL 7]),(1,[tL 7]),(5,[tI])])]
theorem m118:mt 118 Tryz.f118 [] [] [] lb118=some (t118_0,[t118_1]):=by kernel_rfl
def t121_0:T:=
.call 80 [[.v 3, .v 2, .v 1],[.v 0]] [[tI]]<|
.op (.bin .lss) [.v 0, .k (.int .i64 0)] [tB]<|
.ite (.v 0) (
 .ret [[.k (.int .i64 (-1))]]) (
 .ret [[.v 1]])
def lb121:List (Key×List (Nat×List Ty)):=[]
theorem m121:mt 121 Tryz.f121 [] [] [] lb121=some (t121_0,[]):=by kernel_rfl
def t123_0:T:=
.op (.bin .eql) [.v 7, .k (.int .i64 0)] [tB]<|
.ite (.v 0) (
 .op (.bin .eql) [.v 7, .k (.int .i64 0)] [tB]<|
 .ite (.v 0) (
 .call 87 [[.v 7, .v 6, .v 5]] [[tB]]<|
 .ret [[.v 0]]) (
 .ret [[.k (.bool false)]])) (
 .op (.bin .eql) [.v 8, .k (.int .i64 1)] [tB]<|
 .ite (.v 0) (
 .op (.bin .sub) [.v 4, .k (.int .i64 1)] [tI]<|
 .call 49 [[.v 9],[.k (.int .i64 0)],[.v 0]] [[tB]]<|
 .ite (.v 0) (
 .op (.eqs false 3 [.int .i64 0, .int .i64 0, .str []]) [.v 9, .v 8, .v 7, .k (.int .i64 0), .k (.int .i64 0), .k (.str [])] [tB]<|
 .ret [[.v 0]]) (
 .ret [[.k (.bool false)]])) (
 .op (.bin .eql) [.v 9, .k (.int .i64 2)] [tB]<|
 .ite (.v 0) (
 .op (.bin .sub) [.v 4, .k (.int .i64 1)] [tI]<|
 .call 49 [[.v 10],[.k (.int .i64 0)],[.v 0]] [[tB]]<|
 .ite (.v 0) (
 .op (.eqs false 3 [.int .i64 0, .int .i64 0, .str []]) [.v 10, .v 9, .v 8, .k (.int .i64 0), .k (.int .i64 0), .k (.str [])] [tB]<|
 .ret [[.v 0]]) (
 .ret [[.k (.bool false)]])) (
 .op (.bin .eql) [.v 10, .k (.int .i64 3)] [tB]<|
 .ite (.v 0) (
 .op (.bin .sub) [.v 4, .k (.int .i64 1)] [tI]<|
 .call 49 [[.v 11],[.k (.int .i64 0)],[.v 0]] [[tB]]<|
 .ite (.v 0) (
 .op (.eqs false 3 [.int .i64 0, .int .i64 0, .str []]) [.v 11, .v 10, .v 9, .k (.int .i64 0), .k (.int .i64 0), .k (.str [])] [tB]<|
 .ret [[.v 0]]) (
 .ret [[.k (.bool false)]])) (
 .op (.bin .eql) [.v 11, .k (.int .i64 4)] [tB]<|
 .ite (.v 0) (
 .call 49 [[.v 11],[.k (.int .i64 0)],[.k (.int .i64 1)]] [[tB]]<|
 .ite (.v 0) (
 .op (.eqs false 3 [.int .i64 0, .int .i64 0, .str []]) [.v 11, .v 10, .v 9, .k (.int .i64 0), .k (.int .i64 0), .k (.str [])] [tB]<|
 .ret [[.v 0]]) (
 .ret [[.k (.bool false)]])) (
 .op (.bin .eql) [.v 12, .k (.int .i64 5)] [tB]<|
 .ite (.v 0) (
 .call 49 [[.v 12],[.k (.int .i64 0)],[.k (.int .i64 6)]] [[tB]]<|
 .ite (.v 0) (
 .op (.eqs false 3 [.int .i64 0, .int .i64 0, .str []]) [.v 12, .v 11, .v 10, .k (.int .i64 0), .k (.int .i64 0), .k (.str [])] [tB]<|
 .ret [[.v 0]]) (
 .ret [[.k (.bool false)]])) (
 .op (.bin .eql) [.v 13, .k (.int .i64 6)] [tB]<|
 .ite (.v 0) (
 .op (.bin .eql) [.v 13, .k (.int .i64 0)] [tB]<|
 .ite (.v 0) (
 .op (.eqs false 3 [.int .i64 0, .int .i64 0, .str []]) [.v 13, .v 12, .v 11, .k (.int .i64 0), .k (.int .i64 0), .k (.str [])] [tB]<|
 .ret [[.v 0]]) (
 .ret [[.k (.bool false)]])) (
 .ret [[.k (.bool false)]])))))))
def lb123:List (Key×List (Nat×List Ty)):=[]
theorem m123:mt 123 Tryz.f123 [] [] [] lb123=some (t123_0,[]):=by kernel_rfl
def t143_0:T:=
.op (.bin .neq) [.v 9, .v 4] [tB]<|
.ite (.v 0) (
 .ret [[.k (.bool false)]]) (
 .op (.bin .neq) [.v 9, .v 4] [tB]<|
 .ite (.v 0) (
 .ret [[.k (.bool false)]]) (
 .call 112 [[.v 9, .v 8, .v 7],[.v 4, .v 3, .v 2]] [[tB]]<|
 .op (.not) [.v 0] [tB]<|
 .ite (.v 0) (
 .ret [[.k (.bool false)]]) (
 .ret [[.k (.bool true)]])))
def lb143:List (Key×List (Nat×List Ty)):=[]
theorem m143:mt 143 Tryz.f143 [] [] [] lb143=some (t143_0,[]):=by kernel_rfl
def t159_0:T:=
.op (.mm false) [.v 1, .k (.int .i64 4)] [tI]<|
.op (.mm true) [.k (.int .i64 0), .v 0] [tI]<|
.ret [[.v 0]]
def lb159:List (Key×List (Nat×List Ty)):=[]
theorem m159:mt 159 Tryz.f159 [] [] [] lb159=some (t159_0,[]):=by kernel_rfl
end Go.Own
