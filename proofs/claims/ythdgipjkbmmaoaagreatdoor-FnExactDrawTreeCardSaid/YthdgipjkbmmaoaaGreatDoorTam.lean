/- A part of the proof that the last text of this folder tells of. -/
import Derived.Test.YthdgipjkbmmaoaaGreatDoorTae
import Derived.Test.YthdgipjkbmmaoaaGreatDoorTal
set_option maxRecDepth 100000
namespace Go.Own
open Go Go.Proofs
def t4_0:T:=
.op (.len) [.v 1] [tI]<|
.op (.bin .sub) [.v 1, .v 0] [tI]<|
.op (.bin .lss) [.v 0, .k (.int .i64 0)] [tB]<|
.ite (.v 0) (
 .ret [[.k (.int .i64 (-1))]]) (
 .go 0 [.v 4, .v 1, .k (.int .i64 0)])
def t4_1:T:=
.op (.len) [.v 2] [tI]<|
.op (.bin .lss) [.v 1, .v 0] [tB]<|
.ite (.v 0) (
 .op (.row 10) [.v 4, .v 2] [tI,tL 3,tL 1,tI,tI,tL 1,tL 1,tL 5,tL 2,tL 7]<|
 .call 17 [[.v 9, .v 8, .v 7, .v 6, .v 5, .v 4, .v 3, .v 2, .v 1, .v 0],[.v 13]] [[tI]]<|
 .op (.bin .lss) [.v 0, .k (.int .i64 0)] [tB]<|
 .ite (.v 0) (
 .ret [[.k (.int .i64 (-1))]]) (
 .op (.bin .add) [.v 14, .k (.int .i64 1)] [tI]<|
 .go 0 [.v 17, .v 2, .v 0])) (
 .ret [[.v 3]])
def lb4:List (Key×List (Nat×List Ty)):=[(.head 0,[(0,[tL 10]),(1,[tI]),(5,[tI])])]
theorem m4:mt 4 Tryz.f4 [] [] [] lb4=some (t4_0,[t4_1]):=by kernel_rfl
def t20_0:T:=
.op (.len) [.v 0] [tI]<|
.op (.bin .gtr) [.v 0, .k (.int .i64 200)] [tB]<|
.ite (.v 0) (
 .ret [[.k (.bool false)]]) (
 .go 0 [.v 2, .k (.int .i64 0)])
def t20_1:T:=
.op (.len) [.v 1] [tI]<|
.op (.bin .lss) [.v 1, .v 0] [tB]<|
.ite (.v 0) (
 .op (.row 2) [.v 3, .v 2] [tL 2,tL 3]<|
 .call 54 [[.v 1]] [[tB]]<|
 .op (.not) [.v 0] [tB]<|
 .ite (.v 0) (
 .ret [[.k (.bool false)]]) (
 .op (.row 2) [.v 7, .v 6] [tL 2,tL 3]<|
 .op (.len) [.v 0] [tI]<|
 .op (.bin .gtr) [.v 0, .k (.int .i64 3)] [tB]<|
 .ite (.v 0) (
 .ret [[.k (.bool false)]]) (
 .op (.row 2) [.v 11, .v 10] [tL 2,tL 3]<|
 .call 50 [[.v 0]] [[tB]]<|
 .op (.not) [.v 0] [tB]<|
 .ite (.v 0) (
 .ret [[.k (.bool false)]]) (
 .op (.bin .gtr) [.v 14, .k (.int .i64 0)] [tB]<|
 .ite (.v 0) (
 .op (.bin .sub) [.v 15, .k (.int .i64 1)] [tI]<|
 .op (.row 2) [.v 17, .v 0] [tL 2,tL 3]<|
 .op (.row 2) [.v 19, .v 18] [tL 2,tL 3]<|
 .call 55 [[.v 3],[.v 1]] [[tI]]<|
 .op (.bin .geq) [.v 0, .k (.int .i64 0)] [tB]<|
 .ite (.v 0) (
 .ret [[.k (.bool false)]]) (
 .op (.bin .add) [.v 22, .k (.int .i64 1)] [tI]<|
 .go 0 [.v 24, .v 0])) (
 .op (.bin .add) [.v 15, .k (.int .i64 1)] [tI]<|
 .go 0 [.v 17, .v 0]))))) (
 .ret [[.k (.bool true)]])
def lb20:List (Key×List (Nat×List Ty)):=[(.head 0,[(0,[tL 2]),(3,[tI])])]
theorem m20:mt 20 Tryz.f20 [] [] [] lb20=some (t20_0,[t20_1]):=by kernel_rfl
def t40_0:T:=
.go 0 [.v 1, .v 0, .k (.int .i64 0)]
def t40_1:T:=
.op (.len) [.v 2] [tI]<|
.op (.bin .lss) [.v 1, .v 0] [tB]<|
.ite (.v 0) (
 .op (.idx 2) [.v 4, .v 2] [tI]<|
 .op (.putp [] 0 2 true) [.v 5, .v 0, .v 4] [tL 2]<|
 .op (.bin .add) [.v 5, .k (.int .i64 1)] [tI]<|
 .op (.idx 2) [.v 1, .v 5] [tI]<|
 .op (.putp [] 1 2 true) [.v 2, .v 0, .v 1] [tL 2]<|
 .op (.bin .add) [.v 2, .k (.int .i64 1)] [tI]<|
 .op (.bin .add) [.v 8, .k (.int .i64 1)] [tI]<|
 .go 0 [.v 2, .v 1, .v 0]) (
 .ret [[.v 3],[.v 4]])
def lb40:List (Key×List (Nat×List Ty)):=[(.head 0,[(0,[tL 2]),(1,[tI]),(5,[tI])])]
theorem m40:mt 40 Tryz.f40 [] [] [] lb40=some (t40_0,[t40_1]):=by kernel_rfl
def t50_0:T:=
.go 0 [.v 0, .k (.int .i64 0)]
def t50_1:T:=
.op (.len) [.v 1] [tI]<|
.op (.bin .lss) [.v 1, .v 0] [tB]<|
.ite (.v 0) (
 .op (.row 3) [.v 3, .v 2] [tI,tI,tS]<|
 .call 87 [[.v 2, .v 1, .v 0]] [[tB]]<|
 .op (.not) [.v 0] [tB]<|
 .ite (.v 0) (
 .ret [[.k (.bool false)]]) (
 .op (.bin .add) [.v 7, .k (.int .i64 1)] [tI]<|
 .go 0 [.v 9, .v 0])) (
 .ret [[.k (.bool true)]])
def lb50:List (Key×List (Nat×List Ty)):=[(.head 0,[(0,[tL 3]),(3,[tI])])]
theorem m50:mt 50 Tryz.f50 [] [] [] lb50=some (t50_0,[t50_1]):=by kernel_rfl
def t53_0:T:=
.op (.len) [.v 0] [tI]<|
.op (.mk [.int .i64 0]) [.v 0] [tL 1]<|
.op (.len) [.v 2] [tI]<|
.op (.bin .sub) [.v 0, .k (.int .i64 1)] [tI]<|
.go 0 [.v 4, .v 2, .v 0]
def t53_1:T:=
.op (.bin .geq) [.v 0, .k (.int .i64 0)] [tB]<|
.ite (.v 0) (
 .op (.row 10) [.v 3, .v 1] [tI,tL 3,tL 1,tI,tI,tL 1,tL 1,tL 5,tL 2,tL 7]<|
 .call 92 [[.v 6, .v 5, .v 4, .v 3, .v 2, .v 1, .v 0],[.v 12]] [[tI]]<|
 .op (.idx 1) [.v 13, .v 12] [tI]<|
 .op (.putp [] 0 1 true) [.v 14, .v 0, .v 1] [tL 1]<|
 .op (.bin .sub) [.v 14, .k (.int .i64 1)] [tI]<|
 .go 0 [.v 17, .v 1, .v 0]) (
 .ret [[.v 2]])
def lb53:List (Key×List (Nat×List Ty)):=[(.head 0,[(0,[tL 10]),(3,[tL 1]),(4,[tI])])]
theorem m53:mt 53 Tryz.f53 [] [] [] lb53=some (t53_0,[t53_1]):=by kernel_rfl
def t54_0:T:=
.op (.len) [.v 0] [tI]<|
.op (.bin .gtr) [.v 0, .k (.int .i64 20)] [tB]<|
.ite (.v 0) (
 .ret [[.k (.bool false)]]) (
 .go 0 [.v 2, .k (.int .i64 0)])
def t54_1:T:=
.op (.len) [.v 1] [tI]<|
.op (.bin .lss) [.v 1, .v 0] [tB]<|
.ite (.v 0) (
 .op (.row 2) [.v 3, .v 2] [tI,tI]<|
 .call 93 [[.v 1, .v 0]] [[tB]]<|
 .op (.not) [.v 0] [tB]<|
 .ite (.v 0) (
 .ret [[.k (.bool false)]]) (
 .op (.bin .add) [.v 6, .k (.int .i64 1)] [tI]<|
 .go 0 [.v 8, .v 0])) (
 .ret [[.k (.bool true)]])
def lb54:List (Key×List (Nat×List Ty)):=[(.head 0,[(0,[tL 2]),(3,[tI])])]
theorem m54:mt 54 Tryz.f54 [] [] [] lb54=some (t54_0,[t54_1]):=by kernel_rfl
def t58_0:T:=
.call 97 [[.v 0]] [[tL 5]]<|
.ret [[.k (.int .i64 0), .k (.int .i64 (-1)), .k (.str []), .k (.sl 4 []), .v 0]]
def lb58:List (Key×List (Nat×List Ty)):=[]
theorem m58:mt 58 Tryz.f58 [] [] [] lb58=some (t58_0,[]):=by kernel_rfl
def t80_0:T:=
.op (.slen) [.v 1] [tI]<|
.op (.bin .sub) [.v 1, .v 0] [tI]<|
.op (.bin .lss) [.v 0, .k (.int .i64 0)] [tB]<|
.ite (.v 0) (
 .ret [[.k (.int .i64 (-1))]]) (
 .ret [[.v 1]])
def lb80:List (Key×List (Nat×List Ty)):=[]
theorem m80:mt 80 Tryz.f80 [] [] [] lb80=some (t80_0,[]):=by kernel_rfl
def t83_0:T:=
.op (.len) [.v 1] [tI]<|
.op (.bin .sub) [.v 1, .v 0] [tI]<|
.op (.bin .lss) [.v 0, .k (.int .i64 0)] [tB]<|
.ite (.v 0) (
 .ret [[.k (.int .i64 (-1))]]) (
 .go 0 [.v 4, .v 1, .k (.int .i64 0)])
def t83_1:T:=
.op (.len) [.v 2] [tI]<|
.op (.bin .lss) [.v 1, .v 0] [tB]<|
.ite (.v 0) (
 .op (.row 1) [.v 4, .v 2] [tL 5]<|
 .call 84 [[.v 0],[.v 4]] [[tI]]<|
 .op (.bin .lss) [.v 0, .k (.int .i64 0)] [tB]<|
 .ite (.v 0) (
 .ret [[.k (.int .i64 (-1))]]) (
 .op (.bin .add) [.v 5, .k (.int .i64 1)] [tI]<|
 .go 0 [.v 8, .v 2, .v 0])) (
 .ret [[.v 3]])
def lb83:List (Key×List (Nat×List Ty)):=[(.head 0,[(0,[tL 1]),(1,[tI]),(5,[tI])])]
theorem m83:mt 83 Tryz.f83 [] [] [] lb83=some (t83_0,[t83_1]):=by kernel_rfl
def t88_0:T:=
.op (.len) [.v 3] [tI]<|
.op (.bin .gtr) [.v 0, .k (.int .i64 9)] [tB]<|
.ite (.v 0) (
 .ret [[.k (.bool false)]]) (
 .go 0 [.v 5, .v 4, .v 3, .v 2, .k (.int .i64 0), .k (.int .i64 0)])
def t88_1:T:=
.op (.len) [.v 5] [tI]<|
.op (.bin .lss) [.v 1, .v 0] [tB]<|
.ite (.v 0) (
 .op (.row 5) [.v 7, .v 2] [tI,tI,tI,tI,tS]<|
 .call 123 [[.v 4, .v 3, .v 2, .v 1, .v 0],[.v 11],[.v 10],[.v 9]] [[tB]]<|
 .op (.not) [.v 0] [tB]<|
 .ite (.v 0) (
 .ret [[.k (.bool false)]]) (
 .op (.row 5) [.v 14, .v 9] [tI,tI,tI,tI,tS]<|
 .call 124 [[.v 4, .v 3, .v 2, .v 1, .v 0]] [[tI]]<|
 .op (.bin .lss) [.v 16, .v 0] [tB]<|
 .ite (.v 0) (
 .ret [[.k (.bool false)]]) (
 .op (.row 5) [.v 21, .v 16] [tI,tI,tI,tI,tS]<|
 .call 124 [[.v 4, .v 3, .v 2, .v 1, .v 0]] [[tI]]<|
 .op (.bin .sub) [.v 23, .v 0] [tI]<|
 .op (.bin .add) [.v 0, .k (.int .i64 1)] [tI]<|
 .op (.bin .add) [.v 24, .k (.int .i64 1)] [tI]<|
 .go 0 [.v 30, .v 29, .v 28, .v 27, .v 1, .v 0]))) (
 .op (.bin .eql) [.v 3, .k (.int .i64 1)] [tB]<|
 .ret [[.v 0]])
def lb88:List (Key×List (Nat×List Ty)):=[(.head 0,[(0,[tL 5]),(1,[tI]),(2,[tI]),(3,[tI]),(9,[tI]),(10,[tI])])]
theorem m88:mt 88 Tryz.f88 [] [] [] lb88=some (t88_0,[t88_1]):=by kernel_rfl
def t94_0:T:=
.op (.row 10) [.v 5, .v 3] [tI,tL 3,tL 1,tI,tI,tL 1,tL 1,tL 5,tL 2,tL 7]<|
.call 128 [[.v 14],[.k (.int .i64 0)],[.k (.int .i64 0)]] [[tL 2]]<|
.call 127 [[.k (.sl 4 []), .k (.sl 2 []), .k (.int .i64 0)],[.v 7, .v 6, .v 5, .v 4, .v 3, .v 2, .v 1],[.v 13, .v 11, .k (.sl 1 []), .v 12],[.v 0]] [[tL 5],[tL 4,tL 2,tI]]<|
.ret [[.v 19, .v 18, .v 17, .v 16, .v 15, .v 3, .v 2, .v 1]]
def lb94:List (Key×List (Nat×List Ty)):=[]
theorem m94:mt 94 Tryz.f94 [] [] [] lb94=some (t94_0,[]):=by kernel_rfl
def t96_0:T:=
.op (.lit 5 []) [] [tL 5]<|
.go 0 [.v 3, .v 2, .v 1, .v 0, .k (.int .i64 0)]
def t96_1:T:=
.op (.len) [.v 2] [tI]<|
.op (.bin .lss) [.v 1, .v 0] [tB]<|
.ite (.v 0) (
 .op (.row 5) [.v 4, .v 2] [tI,tI,tS,tL 4,tL 5]<|
 .op (.bin .neq) [.v 4, .k (.int .i64 (-2))] [tB]<|
 .ite (.v 0) (
 .call 96 [[.v 12, .v 11],[.v 1]] [[tL 5],[tL 1,tI]]<|
 .call 97 [[.v 2]] [[tL 5]]<|
 .op (.lit 5 [5]) [.v 9, .v 8, .v 7, .v 6, .v 0] [tL 5]<|
 .op (.app 5 false) [.v 14, .v 0] [tL 5]<|
 .op (.bin .add) [.v 14, .k (.int .i64 1)] [tI]<|
 .go 0 [.v 5, .v 4, .v 17, .v 1, .v 0]) (
 .op (.idx 1) [.v 12, .v 11] [tI]<|
 .op (.at [0]) [.v 13, .v 0] [tL 5]<|
 .op (.bin .add) [.v 13, .k (.int .i64 1)] [tI]<|
 .op (.at [0]) [.v 15, .v 2] [tL 5]<|
 .op (.len) [.v 0] [tI]<|
 .op (.bin .gtr) [.v 0, .k (.int .i64 0)] [tB]<|
 .ite (.v 0) (
 .op (.at [0]) [.v 18, .v 5] [tL 5]<|
 .op (.idx 5) [.v 0, .k (.int .i64 0)] [tI]<|
 .op (.at [0,0]) [.v 20, .v 7, .v 0] [tI]<|
 .op (.bin .neq) [.v 0, .k (.int .i64 (-1))] [tB]<|
 .ite (.v 0) (
 .op (.bin .neq) [.v 14, .k (.int .i64 (-1))] [tB]<|
 .ite (.v 0) (
 .op (.at [0]) [.v 23, .v 10] [tL 5]<|
 .op (.idx 5) [.v 0, .k (.int .i64 0)] [tI]<|
 .op (.putp [0] 1 5 true) [.v 25, .v 0, .v 12, .v 17] [tL 1]<|
 .go 1 [.v 0, .v 11, .v 24, .v 23, .v 22, .k (.dead), .v 13]) (
 .go 1 [.v 23, .v 8, .v 21, .v 20, .v 19, .k (.dead), .v 10])) (
 .go 1 [.v 22, .v 7, .v 20, .v 19, .v 18, .k (.dead), .v 9])) (
 .go 1 [.v 18, .v 3, .v 16, .v 15, .v 14, .k (.dead), .v 5]))) (
 .ret [[.v 3],[.v 6, .v 5]])
def t96_2:T:=
.op (.at [0]) [.v 6, .v 0] [tL 5]<|
.op (.hole [0]) [.v 7, .v 1] [tL 1]<|
.op (.app 5 false) [.v 5, .v 1] [tL 5]<|
.op (.bin .add) [.v 5, .k (.int .i64 1)] [tI]<|
.go 0 [.v 2, .v 9, .v 8, .v 1, .v 0]
def lb96:List (Key×List (Nat×List Ty)):=[(.head 0,[(0,[tL 1,tI]),(1,[tL 5]),(5,[tL 5]),(6,[tI])]),(.jn 65,[(0,[tL 1,tI]),(1,[tL 5]),(5,[tL 5]),(6,[tI]),(8,[tX]),(41,[tI])])]
theorem m96:mt 96 Tryz.f96 [] (List.range 40) [(0,0,[0],tL 5),(0,0,[0,0],tI)] lb96=some (t96_0,[t96_1,t96_2]):=by kernel_rfl
def t101_0:T:=
.op (.len) [.v 0] [tI]<|
.op (.mk [.sl 5 []]) [.v 0] [tL 1]<|
.go 0 [.v 2, .v 0, .k (.int .i64 0)]
def t101_1:T:=
.op (.len) [.v 2] [tI]<|
.op (.bin .lss) [.v 1, .v 0] [tB]<|
.ite (.v 0) (
 .op (.row 1) [.v 4, .v 2] [tL 5]<|
 .call 102 [[.v 0]] [[tL 5]]<|
 .op (.idx 1) [.v 5, .v 4] [tI]<|
 .op (.putp [] 0 1 false) [.v 6, .v 0, .v 1] [tL 1]<|
 .op (.bin .add) [.v 6, .k (.int .i64 1)] [tI]<|
 .go 0 [.v 9, .v 1, .v 0]) (
 .ret [[.v 3]])
def lb101:List (Key×List (Nat×List Ty)):=[(.head 0,[(0,[tL 1]),(3,[tL 1]),(4,[tI])])]
theorem m101:mt 101 Tryz.f101 [] [] [] lb101=some (t101_0,[t101_1]):=by kernel_rfl
def t108_0:T:=
.op (.bin .eql) [.v 2, .k (.int .i64 0)] [tB]<|
.ite (.v 0) (
 .op (.bin .eql) [.v 2, .k (.int .i64 0)] [tB]<|
 .ite (.v 0) (
 .op (.bin .eql) [.v 2, .k (.str [])] [tB]<|
 .ret [[.v 0]]) (
 .ret [[.k (.bool false)]])) (
 .op (.bin .eql) [.v 3, .k (.int .i64 1)] [tB]<|
 .ite (.v 0) (
 .call 63 [[.v 3],[.k (.int .i64 (-1000))],[.k (.int .i64 1000)]] [[tB]]<|
 .ite (.v 0) (
 .op (.bin .eql) [.v 3, .k (.str [])] [tB]<|
 .ret [[.v 0]]) (
 .ret [[.k (.bool false)]])) (
 .op (.bin .eql) [.v 4, .k (.int .i64 2)] [tB]<|
 .ite (.v 0) (
 .op (.bin .eql) [.v 4, .k (.int .i64 0)] [tB]<|
 .ite (.v 0) (
 .call 134 [[.v 4]] [[tB]]<|
 .ret [[.v 0]]) (
 .ret [[.k (.bool false)]])) (
 .ret [[.k (.bool false)]])))
def lb108:List (Key×List (Nat×List Ty)):=[]
theorem m108:mt 108 Tryz.f108 [] [] [] lb108=some (t108_0,[]):=by kernel_rfl
def t119_0:T:=
.op (.bin .neq) [.v 3, .v 1] [tB]<|
.ite (.v 0) (
 .ret [[.k (.bool false)]]) (
 .op (.bin .neq) [.v 3, .v 1] [tB]<|
 .ite (.v 0) (
 .ret [[.k (.bool false)]]) (
 .ret [[.k (.bool true)]]))
def lb119:List (Key×List (Nat×List Ty)):=[]
theorem m119:mt 119 Tryz.f119 [] [] [] lb119=some (t119_0,[]):=by kernel_rfl
def t130_0:T:=
.call 102 [[.v 0]] [[tL 5]]<|
.ret [[.v 2, .v 0]]
def lb130:List (Key×List (Nat×List Ty)):=[]
theorem m130:mt 130 Tryz.f130 [] [] [] lb130=some (t130_0,[]):=by kernel_rfl
def t145_0:T:=
.op (.bin .geq) [.v 0, .k (.int .u8 97)] [tB]<|
.ite (.v 0) (
 .op (.bin .leq) [.v 1, .k (.int .u8 122)] [tB]<|
 .ite (.v 0) (
 .ret [[.k (.bool true)]]) (
 .op (.bin .geq) [.v 2, .k (.int .u8 48)] [tB]<|
 .ite (.v 0) (
 .op (.bin .leq) [.v 3, .k (.int .u8 57)] [tB]<|
 .ite (.v 0) (
 .ret [[.k (.bool true)]]) (
 .op (.bin .eql) [.v 4, .k (.int .u8 32)] [tB]<|
 .ret [[.v 0]])) (
 .op (.bin .eql) [.v 3, .k (.int .u8 32)] [tB]<|
 .ret [[.v 0]]))) (
 .op (.bin .geq) [.v 1, .k (.int .u8 48)] [tB]<|
 .ite (.v 0) (
 .op (.bin .leq) [.v 2, .k (.int .u8 57)] [tB]<|
 .ite (.v 0) (
 .ret [[.k (.bool true)]]) (
 .op (.bin .eql) [.v 3, .k (.int .u8 32)] [tB]<|
 .ret [[.v 0]])) (
 .op (.bin .eql) [.v 2, .k (.int .u8 32)] [tB]<|
 .ret [[.v 0]]))
def lb145:List (Key×List (Nat×List Ty)):=[]
theorem m145:mt 145 Tryz.f145 [] [] [] lb145=some (t145_0,[]):=by kernel_rfl
def t151_0:T:=
.op (.lit 3 []) [] [tL 3]<|
.go 0 [.v 5, .v 4, .v 3, .v 2, .v 1, .v 0, .k (.int .i64 0)]
def t151_1:T:=
.op (.len) [.v 6] [tI]<|
.op (.bin .lss) [.v 1, .v 0] [tB]<|
.ite (.v 0) (
 .op (.row 1) [.v 8, .v 2] [tL 5]<|
 .call 147 [[.v 0],[.v 8, .v 7, .v 6, .v 5]] [[tI,tI,tS]]<|
 .op (.lit 3 [3]) [.v 2, .v 1, .v 0] [tL 3]<|
 .op (.app 3 true) [.v 8, .v 0] [tL 3]<|
 .op (.bin .add) [.v 8, .k (.int .i64 1)] [tI]<|
 .go 0 [.v 15, .v 14, .v 13, .v 12, .v 11, .v 1, .v 0]) (
 .ret [[.v 3]])
def lb151:List (Key×List (Nat×List Ty)):=[(.head 0,[(0,[tL 1]),(3,[tL 3,tL 3,tL 1,tL 3]),(5,[tL 3]),(6,[tI])])]
theorem m151:mt 151 Tryz.f151 [] [] [] lb151=some (t151_0,[t151_1]):=by kernel_rfl
def t154_0:T:=
.call 108 [[.v 5, .v 4, .v 3]] [[tB]]<|
.op (.not) [.v 0] [tB]<|
.ite (.v 0) (
 .ret [[.k (.int .i64 0), .k (.int .i64 0), .k (.str [])]]) (
 .call 108 [[.v 4, .v 3, .v 2]] [[tB]]<|
 .op (.not) [.v 0] [tB]<|
 .ite (.v 0) (
 .ret [[.k (.int .i64 0), .k (.int .i64 0), .k (.str [])]]) (
 .op (.bin .eql) [.v 10, .k (.int .i64 0)] [tB]<|
 .ite (.v 0) (
 .op (.bin .neq) [.v 10, .k (.int .i64 1)] [tB]<|
 .ite (.v 0) (
 .go 0 [.v 12, .v 11, .v 10, .v 9, .v 8, .v 7, .v 6, .k (.int .i64 0), .k (.int .i64 0), .k (.str []), .k (.bool true)]) (
 .op (.bin .neq) [.v 8, .k (.int .i64 1)] [tB]<|
 .go 0 [.v 13, .v 12, .v 11, .v 10, .v 9, .v 8, .v 7, .k (.int .i64 0), .k (.int .i64 0), .k (.str []), .v 0])) (
 .op (.bin .eql) [.v 11, .k (.int .i64 1)] [tB]<|
 .ite (.v 0) (
 .op (.bin .neq) [.v 11, .k (.int .i64 1)] [tB]<|
 .ite (.v 0) (
 .go 0 [.v 13, .v 12, .v 11, .v 10, .v 9, .v 8, .v 7, .k (.int .i64 0), .k (.int .i64 0), .k (.str []), .k (.bool true)]) (
 .op (.bin .neq) [.v 9, .k (.int .i64 1)] [tB]<|
 .go 0 [.v 14, .v 13, .v 12, .v 11, .v 10, .v 9, .v 8, .k (.int .i64 0), .k (.int .i64 0), .k (.str []), .v 0])) (
 .op (.bin .eql) [.v 12, .k (.int .i64 2)] [tB]<|
 .ite (.v 0) (
 .op (.bin .neq) [.v 12, .k (.int .i64 1)] [tB]<|
 .ite (.v 0) (
 .go 0 [.v 14, .v 13, .v 12, .v 11, .v 10, .v 9, .v 8, .k (.int .i64 0), .k (.int .i64 0), .k (.str []), .k (.bool true)]) (
 .op (.bin .neq) [.v 10, .k (.int .i64 1)] [tB]<|
 .go 0 [.v 15, .v 14, .v 13, .v 12, .v 11, .v 10, .v 9, .k (.int .i64 0), .k (.int .i64 0), .k (.str []), .v 0])) (
 .op (.bin .eql) [.v 13, .k (.int .i64 3)] [tB]<|
 .ite (.v 0) (
 .op (.bin .neq) [.v 13, .k (.int .i64 1)] [tB]<|
 .ite (.v 0) (
 .go 0 [.v 15, .v 14, .v 13, .v 12, .v 11, .v 10, .v 9, .k (.int .i64 0), .k (.int .i64 0), .k (.str []), .k (.bool true)]) (
 .op (.bin .neq) [.v 11, .k (.int .i64 1)] [tB]<|
 .go 0 [.v 16, .v 15, .v 14, .v 13, .v 12, .v 11, .v 10, .k (.int .i64 0), .k (.int .i64 0), .k (.str []), .v 0])) (
 .op (.bin .eql) [.v 14, .k (.int .i64 4)] [tB]<|
 .ite (.v 0) (
 .op (.eqs false 3 [.int .i64 0, .int .i64 0, .str []]) [.v 14, .v 13, .v 12, .v 11, .v 10, .v 9] [tB]<|
 .call 162 [[.v 0]] [[tI,tI,tS]]<|
 .ret [[.v 2, .v 1, .v 0]]) (
 .op (.bin .eql) [.v 15, .k (.int .i64 5)] [tB]<|
 .ite (.v 0) (
 .call 138 [[.v 15, .v 14, .v 13]] [[tS]]<|
 .call 138 [[.v 13, .v 12, .v 11]] [[tS]]<|
 .op (.bin .add) [.v 1, .v 0] [tS]<|
 .call 108 [[.k (.int .i64 2), .k (.int .i64 0), .v 0]] [[tB]]<|
 .op (.not) [.v 0] [tB]<|
 .ite (.v 0) (
 .ret [[.k (.int .i64 0), .k (.int .i64 0), .k (.str [])]]) (
 .ret [[.k (.int .i64 2), .k (.int .i64 0), .v 2]])) (
 .op (.bin .eql) [.v 16, .k (.int .i64 6)] [tB]<|
 .ite (.v 0) (
 .call 140 [[.v 16, .v 15, .v 14]] [[tB]]<|
 .ite (.v 0) (
 .ret [[.v 14, .v 13, .v 12]]) (
 .ret [[.v 17, .v 16, .v 15]])) (
 .ret [[.k (.int .i64 0), .k (.int .i64 0), .k (.str [])]])))))))))
def t154_1:T:=
.ite (.v 0) (
 .ret [[.k (.int .i64 0), .k (.int .i64 0), .k (.str [])]]) (
 .op (.bin .eql) [.v 10, .k (.int .i64 0)] [tB]<|
 .ite (.v 0) (
 .op (.bin .add) [.v 9, .v 6] [tI]<|
 .call 63 [[.v 0],[.k (.int .i64 (-1000))],[.k (.int .i64 1000)]] [[tB]]<|
 .op (.not) [.v 0] [tB]<|
 .ite (.v 0) (
 .ret [[.k (.int .i64 0), .k (.int .i64 0), .k (.str [])]]) (
 .call 153 [[.v 2]] [[tI,tI,tS]]<|
 .ret [[.v 2, .v 1, .v 0]])) (
 .op (.bin .eql) [.v 11, .k (.int .i64 1)] [tB]<|
 .ite (.v 0) (
 .op (.bin .sub) [.v 10, .v 7] [tI]<|
 .call 63 [[.v 0],[.k (.int .i64 (-1000))],[.k (.int .i64 1000)]] [[tB]]<|
 .op (.not) [.v 0] [tB]<|
 .ite (.v 0) (
 .ret [[.k (.int .i64 0), .k (.int .i64 0), .k (.str [])]]) (
 .call 153 [[.v 2]] [[tI,tI,tS]]<|
 .ret [[.v 2, .v 1, .v 0]])) (
 .op (.bin .eql) [.v 12, .k (.int .i64 2)] [tB]<|
 .ite (.v 0) (
 .op (.bin .mul) [.v 11, .v 8] [tI]<|
 .call 63 [[.v 0],[.k (.int .i64 (-1000))],[.k (.int .i64 1000)]] [[tB]]<|
 .op (.not) [.v 0] [tB]<|
 .ite (.v 0) (
 .ret [[.k (.int .i64 0), .k (.int .i64 0), .k (.str [])]]) (
 .call 153 [[.v 2]] [[tI,tI,tS]]<|
 .ret [[.v 2, .v 1, .v 0]])) (
 .op (.bin .lss) [.v 11, .v 8] [tB]<|
 .call 162 [[.v 0]] [[tI,tI,tS]]<|
 .ret [[.v 2, .v 1, .v 0]]))))
def lb154:List (Key×List (Nat×List Ty)):=[(.atc 31,[(0,[tI]),(4,[tI,tI,tS]),(5,[tI,tI,tS]),(6,[tI,tI,tS]),(31,[tB])])]
theorem m154:mt 154 Tryz.f154 [] [] [] lb154=some (t154_0,[t154_1]):=by kernel_rfl
end Go.Own
