/- A part of the proof that the last text of this folder tells of. -/
import Derived.Test.YthdgipjkbmmaoaaGreatDoorTae
import Derived.Test.YthdgipjkbmmaoaaGreatDoorTaf
set_option maxRecDepth 100000
namespace Go.Own
open Go Go.Proofs
def t7_0:T:=
.op (.len) [.v 0] [tI]<|
.op (.mk [.int .i64 0, .sl 3 [], .sl 1 [], .int .i64 0, .int .i64 0, .sl 1 [], .sl 1 [], .sl 5 [], .sl 2 [], .sl 7 []]) [.v 0] [tL 10]<|
.go 0 [.v 2, .v 0, .k (.int .i64 0)]
def t7_1:T:=
.op (.len) [.v 2] [tI]<|
.op (.bin .lss) [.v 1, .v 0] [tB]<|
.ite (.v 0) (
 .op (.row 10) [.v 4, .v 2] [tI,tL 3,tL 1,tI,tI,tL 1,tL 1,tL 5,tL 2,tL 7]<|
 .call 22 [[.v 9, .v 8, .v 7, .v 6, .v 5, .v 4, .v 3, .v 2, .v 1, .v 0]] [[tI,tL 3,tL 1,tI,tI,tL 1,tL 1,tL 5,tL 2,tL 7]]<|
 .op (.idx 10) [.v 23, .v 22] [tI]<|
 .op (.putp [] 0 10 false) [.v 24, .v 0, .v 10, .v 9, .v 8, .v 7, .v 6, .v 5, .v 4, .v 3, .v 2, .v 1] [tL 10]<|
 .op (.bin .add) [.v 24, .k (.int .i64 1)] [tI]<|
 .go 0 [.v 27, .v 1, .v 0]) (
 .ret [[.v 3]])
def lb7:List (Key×List (Nat×List Ty)):=[(.head 0,[(0,[tL 10]),(3,[tL 10]),(4,[tI])])]
theorem m7:mt 7 Tryz.f7 [] [] [] lb7=some (t7_0,[t7_1]):=by kernel_rfl
def t11_0:T:=
.op (.len) [.v 1] [tI]<|
.op (.len) [.v 1] [tI]<|
.op (.bin .neq) [.v 1, .v 0] [tB]<|
.ite (.v 0) (
 .ret [[.k (.bool false)]]) (
 .go 0 [.v 4, .v 3, .k (.int .i64 0)])
def t11_1:T:=
.op (.len) [.v 2] [tI]<|
.op (.bin .lss) [.v 1, .v 0] [tB]<|
.ite (.v 0) (
 .op (.row 10) [.v 4, .v 2] [tI,tL 3,tL 1,tI,tI,tL 1,tL 1,tL 5,tL 2,tL 7]<|
 .op (.row 10) [.v 13, .v 12] [tI,tL 3,tL 1,tI,tI,tL 1,tL 1,tL 5,tL 2,tL 7]<|
 .call 31 [[.v 19, .v 18, .v 17, .v 16, .v 15, .v 14, .v 13, .v 12, .v 11, .v 10],[.v 9, .v 8, .v 7, .v 6, .v 5, .v 4, .v 3, .v 2, .v 1, .v 0]] [[tB]]<|
 .op (.not) [.v 0] [tB]<|
 .ite (.v 0) (
 .ret [[.k (.bool false)]]) (
 .op (.bin .add) [.v 24, .k (.int .i64 1)] [tI]<|
 .go 0 [.v 27, .v 26, .v 0])) (
 .ret [[.k (.bool true)]])
def lb11:List (Key×List (Nat×List Ty)):=[(.head 0,[(0,[tL 10]),(1,[tL 10]),(5,[tI])])]
theorem m11:mt 11 Tryz.f11 [] [] [] lb11=some (t11_0,[t11_1]):=by kernel_rfl
def t13_0:T:=
.go 0 [.v 1, .v 0, .k (.int .i64 0)]
def t13_1:T:=
.op (.len) [.v 2] [tI]<|
.op (.bin .lss) [.v 1, .v 0] [tB]<|
.ite (.v 0) (
 .op (.idx 10) [.v 4, .v 2] [tI]<|
 .op (.putp [] 0 10 true) [.v 5, .v 0, .v 4] [tL 10]<|
 .op (.bin .add) [.v 5, .k (.int .i64 1)] [tI]<|
 .op (.idx 10) [.v 1, .v 5] [tI]<|
 .op (.at [1]) [.v 2, .v 0] [tL 3]<|
 .op (.at [1]) [.v 3, .v 1] [tL 3]<|
 .op (.hole [1]) [.v 4, .v 2] [tL 10]<|
 .call 33 [[.v 1],[.v 4]] [[tI],[tL 3]]<|
 .op (.setAt [1]) [.v 2, .v 0, .v 5] [tL 10]<|
 .op (.idx 10) [.v 0, .v 12] [tI]<|
 .op (.at [2]) [.v 1, .v 0] [tL 1]<|
 .op (.at [2]) [.v 2, .v 1] [tL 1]<|
 .op (.hole [2]) [.v 3, .v 2] [tL 10]<|
 .call 34 [[.v 1],[.v 6]] [[tI],[tL 1]]<|
 .op (.setAt [2]) [.v 2, .v 0, .v 5] [tL 10]<|
 .op (.idx 10) [.v 0, .v 19] [tI]<|
 .op (.putp [] 3 10 true) [.v 1, .v 0, .v 3] [tL 10]<|
 .op (.bin .add) [.v 4, .k (.int .i64 1)] [tI]<|
 .op (.idx 10) [.v 1, .v 22] [tI]<|
 .op (.putp [] 4 10 true) [.v 2, .v 0, .v 1] [tL 10]<|
 .op (.bin .add) [.v 2, .k (.int .i64 1)] [tI]<|
 .op (.idx 10) [.v 1, .v 25] [tI]<|
 .op (.at [5]) [.v 2, .v 0] [tL 1]<|
 .op (.at [5]) [.v 3, .v 1] [tL 1]<|
 .op (.hole [5]) [.v 4, .v 2] [tL 10]<|
 .call 35 [[.v 1],[.v 4]] [[tI],[tL 1]]<|
 .op (.setAt [5]) [.v 2, .v 0, .v 5] [tL 10]<|
 .op (.idx 10) [.v 0, .v 32] [tI]<|
 .op (.at [6]) [.v 1, .v 0] [tL 1]<|
 .op (.at [6]) [.v 2, .v 1] [tL 1]<|
 .op (.hole [6]) [.v 3, .v 2] [tL 10]<|
 .call 36 [[.v 1],[.v 6]] [[tI],[tL 1]]<|
 .op (.setAt [6]) [.v 2, .v 0, .v 5] [tL 10]<|
 .op (.idx 10) [.v 0, .v 39] [tI]<|
 .op (.at [7]) [.v 1, .v 0] [tL 5]<|
 .op (.at [7]) [.v 2, .v 1] [tL 5]<|
 .op (.hole [7]) [.v 3, .v 2] [tL 10]<|
 .call 37 [[.v 1],[.v 6]] [[tI],[tL 5]]<|
 .op (.setAt [7]) [.v 2, .v 0, .v 5] [tL 10]<|
 .op (.idx 10) [.v 0, .v 46] [tI]<|
 .op (.at [8]) [.v 1, .v 0] [tL 2]<|
 .op (.at [8]) [.v 2, .v 1] [tL 2]<|
 .op (.hole [8]) [.v 3, .v 2] [tL 10]<|
 .call 38 [[.v 1],[.v 6]] [[tI],[tL 2]]<|
 .op (.setAt [8]) [.v 2, .v 0, .v 5] [tL 10]<|
 .op (.idx 10) [.v 0, .v 53] [tI]<|
 .op (.at [9]) [.v 1, .v 0] [tL 7]<|
 .op (.at [9]) [.v 2, .v 1] [tL 7]<|
 .op (.hole [9]) [.v 3, .v 2] [tL 10]<|
 .call 39 [[.v 1],[.v 6]] [[tI],[tL 7]]<|
 .op (.setAt [9]) [.v 2, .v 0, .v 5] [tL 10]<|
 .op (.bin .add) [.v 60, .k (.int .i64 1)] [tI]<|
 .go 0 [.v 1, .v 3, .v 0]) (
 .ret [[.v 3],[.v 4]])
def lb13:List (Key×List (Nat×List Ty)):=[(.head 0,[(0,[tL 10]),(1,[tI]),(5,[tI])])]
theorem m13:mt 13 Tryz.f13 [] [] [(0,0,[1],tL 3),(0,0,[2],tL 1),(0,0,[5],tL 1),(0,0,[6],tL 1),(0,0,[7],tL 5),(0,0,[8],tL 2),(0,0,[9],tL 7)] lb13=some (t13_0,[t13_1]):=by kernel_rfl
def t16_0:T:=
.call 43 [[.v 2],[.v 0]] [[tI]]<|
.op (.bin .lss) [.v 0, .k (.int .i64 0)] [tB]<|
.ite (.v 0) (
 .ret [[.k (.int .i64 (-1))]]) (
 .call 44 [[.v 3],[.v 1]] [[tI]]<|
 .op (.bin .lss) [.v 0, .k (.int .i64 0)] [tB]<|
 .ite (.v 0) (
 .ret [[.k (.int .i64 (-1))]]) (
 .ret [[.v 1]]))
def lb16:List (Key×List (Nat×List Ty)):=[]
theorem m16:mt 16 Tryz.f16 [] [] [] lb16=some (t16_0,[]):=by kernel_rfl
def t27_0:T:=
.call 72 [[.v 5],[.v 4],[.v 3, .v 2, .v 1, .v 0]] [[tL 2,tI,tL 3,tL 3,tL 3,tL 5,tL 4,tL 2]]<|
.op (.lit 8 [8]) [.v 7, .v 6, .v 5, .v 4, .v 3, .v 2, .v 1, .v 0] [tL 8]<|
.op (.len) [.v 2] [tI]<|
.go 0 [.v 15, .v 14, .v 1, .v 3, .v 0, .k (.int .i64 0)]
def t27_1:T:=
.op (.bin .lss) [.v 0, .v 1] [tB]<|
.ite (.v 0) (
 .op (.row 4) [.v 3, .v 1] [tL 2,tI,tL 3,tL 3]<|
 .call 27 [[.v 10],[.v 9],[.v 3, .v 2, .v 1, .v 0]] [[tL 8]]<|
 .op (.app 8 false) [.v 9, .v 0] [tL 8]<|
 .op (.bin .add) [.v 7, .k (.int .i64 1)] [tI]<|
 .go 0 [.v 13, .v 12, .v 1, .v 10, .v 9, .v 0]) (
 .ret [[.v 4]])
def lb27:List (Key×List (Nat×List Ty)):=[(.head 0,[(0,[tL 10]),(1,[tL 2]),(8,[tL 8]),(18,[tL 4]),(19,[tI]),(20,[tI])])]
theorem m27:mt 27 Tryz.f27 (List.range 40) [] [] lb27=some (t27_0,[t27_1]):=by kernel_rfl
def t37_0:T:=
.go 0 [.v 1, .v 0, .k (.int .i64 0)]
def t37_1:T:=
.op (.len) [.v 2] [tI]<|
.op (.bin .lss) [.v 1, .v 0] [tB]<|
.ite (.v 0) (
 .op (.idx 5) [.v 4, .v 2] [tI]<|
 .op (.putp [] 0 5 true) [.v 5, .v 0, .v 4] [tL 5]<|
 .op (.bin .add) [.v 5, .k (.int .i64 1)] [tI]<|
 .op (.idx 5) [.v 1, .v 5] [tI]<|
 .op (.putp [] 1 5 true) [.v 2, .v 0, .v 1] [tL 5]<|
 .op (.bin .add) [.v 2, .k (.int .i64 1)] [tI]<|
 .op (.idx 5) [.v 1, .v 8] [tI]<|
 .op (.putp [] 2 5 true) [.v 2, .v 0, .v 1] [tL 5]<|
 .op (.bin .add) [.v 2, .k (.int .i64 1)] [tI]<|
 .op (.idx 5) [.v 1, .v 11] [tI]<|
 .op (.putp [] 3 5 true) [.v 2, .v 0, .v 1] [tL 5]<|
 .op (.bin .add) [.v 2, .k (.int .i64 1)] [tI]<|
 .call 78 [[.v 0]] [[tS]]<|
 .op (.idx 5) [.v 2, .v 15] [tI]<|
 .op (.putp [] 4 5 true) [.v 3, .v 0, .v 1] [tL 5]<|
 .op (.bin .add) [.v 3, .k (.int .i64 1)] [tI]<|
 .op (.bin .add) [.v 18, .k (.int .i64 1)] [tI]<|
 .go 0 [.v 2, .v 1, .v 0]) (
 .ret [[.v 3],[.v 4]])
def lb37:List (Key×List (Nat×List Ty)):=[(.head 0,[(0,[tL 5]),(1,[tI]),(5,[tI])])]
theorem m37:mt 37 Tryz.f37 [] [] [] lb37=some (t37_0,[t37_1]):=by kernel_rfl
def t46_0:T:=
.op (.len) [.v 1] [tI]<|
.op (.bin .sub) [.v 1, .v 0] [tI]<|
.op (.bin .lss) [.v 0, .k (.int .i64 0)] [tB]<|
.ite (.v 0) (
 .ret [[.k (.int .i64 (-1))]]) (
 .go 0 [.v 4, .v 1, .k (.int .i64 0)])
def t46_1:T:=
.op (.len) [.v 2] [tI]<|
.op (.bin .lss) [.v 1, .v 0] [tB]<|
.ite (.v 0) (
 .op (.row 1) [.v 4, .v 2] [tL 2]<|
 .call 81 [[.v 0],[.v 4]] [[tI]]<|
 .op (.bin .lss) [.v 0, .k (.int .i64 0)] [tB]<|
 .ite (.v 0) (
 .ret [[.k (.int .i64 (-1))]]) (
 .op (.bin .add) [.v 5, .k (.int .i64 1)] [tI]<|
 .go 0 [.v 8, .v 2, .v 0])) (
 .ret [[.v 3]])
def lb46:List (Key×List (Nat×List Ty)):=[(.head 0,[(0,[tL 1]),(1,[tI]),(5,[tI])])]
theorem m46:mt 46 Tryz.f46 [] [] [] lb46=some (t46_0,[t46_1]):=by kernel_rfl
def t48_0:T:=
.op (.len) [.v 1] [tI]<|
.op (.bin .sub) [.v 1, .v 0] [tI]<|
.op (.bin .lss) [.v 0, .k (.int .i64 0)] [tB]<|
.ite (.v 0) (
 .ret [[.k (.int .i64 (-1))]]) (
 .ret [[.v 1]])
def lb48:List (Key×List (Nat×List Ty)):=[]
theorem m48:mt 48 Tryz.f48 [] [] [] lb48=some (t48_0,[]):=by kernel_rfl
def t64_0:T:=
.op (.row 10) [.v 1, .v 0] [tI,tL 3,tL 1,tI,tI,tL 1,tL 1,tL 5,tL 2,tL 7]<|
.call 63 [[.v 9],[.k (.int .i64 0)],[.k (.int .i64 3)]] [[tB]]<|
.op (.not) [.v 0] [tB]<|
.ite (.v 0) (
 .ret [[.k (.bool false)]]) (
 .op (.len) [.v 10] [tI]<|
 .op (.bin .gtr) [.v 0, .k (.int .i64 3)] [tB]<|
 .ite (.v 0) (
 .ret [[.k (.bool false)]]) (
 .call 68 [[.v 12]] [[tB]]<|
 .op (.not) [.v 0] [tB]<|
 .ite (.v 0) (
 .ret [[.k (.bool false)]]) (
 .op (.len) [.v 13] [tI]<|
 .op (.bin .gtr) [.v 0, .k (.int .i64 3)] [tB]<|
 .ite (.v 0) (
 .ret [[.k (.bool false)]]) (
 .op (.len) [.v 15] [tI]<|
 .go 0 [.v 18, .v 17, .v 16, .v 15, .v 14, .v 13, .v 12, .v 11, .v 10, .v 9, .v 16, .v 0, .k (.int .i64 0)]))))
def t64_1:T:=
.op (.bin .lss) [.v 0, .v 1] [tB]<|
.ite (.v 0) (
 .op (.row 1) [.v 3, .v 1] [tL 2]<|
 .op (.len) [.v 0] [tI]<|
 .op (.bin .gtr) [.v 0, .k (.int .i64 3)] [tB]<|
 .ite (.v 0) (
 .ret [[.k (.bool false)]]) (
 .op (.len) [.v 2] [tI]<|
 .go 1 [.v 17, .v 16, .v 15, .v 14, .v 13, .v 12, .v 11, .v 10, .v 9, .v 8, .v 7, .v 6, .v 5, .v 3, .v 0, .k (.int .i64 0)])) (
 .ret [[.k (.bool true)]])
def t64_2:T:=
.op (.bin .lss) [.v 0, .v 1] [tB]<|
.ite (.v 0) (
 .op (.row 2) [.v 3, .v 1] [tI,tL 5]<|
 .op (.len) [.v 17] [tI]<|
 .op (.bin .sub) [.v 0, .k (.int .i64 1)] [tI]<|
 .call 63 [[.v 3],[.k (.int .i64 0)],[.v 0]] [[tB]]<|
 .op (.not) [.v 0] [tB]<|
 .ite (.v 0) (
 .ret [[.k (.bool false)]]) (
 .op (.len) [.v 21] [tI]<|
 .call 106 [[.v 5],[.k (.int .i64 0)],[.v 0],[.k (.int .i64 0)]] [[tB]]<|
 .op (.not) [.v 0] [tB]<|
 .ite (.v 0) (
 .ret [[.k (.bool false)]]) (
 .op (.bin .add) [.v 10, .k (.int .i64 1)] [tI]<|
 .go 1 [.v 26, .v 25, .v 24, .v 23, .v 22, .v 21, .v 20, .v 19, .v 18, .v 17, .v 16, .v 15, .v 14, .v 13, .v 12, .v 0]))) (
 .op (.bin .add) [.v 4, .k (.int .i64 1)] [tI]<|
 .go 0 [.v 17, .v 16, .v 15, .v 14, .v 13, .v 12, .v 11, .v 10, .v 9, .v 8, .v 7, .v 6, .v 0])
def lb64:List (Key×List (Nat×List Ty)):=[(.head 0,[(5,[tI,tL 3,tL 1,tI,tI,tL 1,tL 1,tL 5,tL 2,tL 7]),(37,[tL 1]),(38,[tI]),(39,[tI])]),(.head 2,[(5,[tI,tL 3,tL 1,tI,tI,tL 1,tL 1,tL 5,tL 2,tL 7]),(37,[tL 1]),(38,[tI]),(39,[tI]),(46,[tL 2]),(47,[tI]),(48,[tI])])]
theorem m64:mt 64 Tryz.f64 [] [] [] lb64=some (t64_0,[t64_1,t64_2]):=by kernel_rfl
def t78_0:T:=
.op (.bin .leq) [.v 0, .k (.int .i64 0)] [tB]<|
.ite (.v 0) (
 .ret [[.k (.str [109,48])]]) (
 .go 0 [.v 1, .k (.str [])])
def t78_1:T:=
.op (.bin .gtr) [.v 1, .k (.int .i64 0)] [tB]<|
.ite (.v 0) (
 .op (.bin .rem) [.v 2, .k (.int .i64 10)] [tI]<|
 .op (.bin .add) [.k (.int .i64 48), .v 0] [tI]<|
 .op (.conv .u8) [.v 0] [(.i .u8)]<|
 .op (.lit 1 [1]) [.v 0] [tL 1]<|
 .op (.b2s) [.v 0] [tS]<|
 .op (.bin .add) [.v 0, .v 6] [tS]<|
 .op (.bin .quo) [.v 8, .k (.int .i64 10)] [tI]<|
 .go 0 [.v 0, .v 1]) (
 .op (.bin .add) [.k (.str [109]), .v 1] [tS]<|
 .ret [[.v 0]])
def lb78:List (Key×List (Nat×List Ty)):=[(.head 0,[(0,[tI]),(3,[tS])])]
theorem m78:mt 78 Tryz.f78 [] [] [] lb78=some (t78_0,[t78_1]):=by kernel_rfl
def t86_0:T:=
.op (.len) [.v 1] [tI]<|
.op (.bin .sub) [.v 1, .v 0] [tI]<|
.op (.bin .lss) [.v 0, .k (.int .i64 0)] [tB]<|
.ite (.v 0) (
 .ret [[.k (.int .i64 (-1))]]) (
 .go 0 [.v 4, .v 1, .k (.int .i64 0)])
def t86_1:T:=
.op (.len) [.v 2] [tI]<|
.op (.bin .lss) [.v 1, .v 0] [tB]<|
.ite (.v 0) (
 .op (.row 7) [.v 4, .v 2] [tI,tI,tL 1,tL 1,tL 5,tL 2,tL 7]<|
 .call 47 [[.v 6, .v 5, .v 4, .v 3, .v 2, .v 1, .v 0],[.v 10]] [[tI]]<|
 .op (.bin .lss) [.v 0, .k (.int .i64 0)] [tB]<|
 .ite (.v 0) (
 .ret [[.k (.int .i64 (-1))]]) (
 .op (.bin .add) [.v 11, .k (.int .i64 1)] [tI]<|
 .go 0 [.v 14, .v 2, .v 0])) (
 .ret [[.v 3]])
def lb86:List (Key×List (Nat×List Ty)):=[(.head 0,[(0,[tL 7]),(1,[tI]),(5,[tI])])]
theorem m86:mt 86 Tryz.f86 [] [] [] lb86=some (t86_0,[t86_1]):=by kernel_rfl
def t95_0:T:=
.call 129 [[.v 11],[.v 10]] [[tI,tB]]<|
.ite (.v 0) (
 .op (.row 2) [.v 13, .v 1] [tL 2,tL 3]<|
 .op (.len) [.v 0] [tI]<|
 .op (.len) [.v 13] [tI]<|
 .op (.bin .eql) [.v 1, .v 0] [tB]<|
 .ite (.v 0) (
 .op (.lit 3 []) [] [tL 3]<|
 .op (.row 2) [.v 19, .v 7] [tL 2,tL 3]<|
 .op (.app 3 true) [.v 2, .v 0] [tL 3]<|
 .ret [[.v 0]]) (
 .op (.lit 3 []) [] [tL 3]<|
 .op (.app 3 true) [.v 0, .v 16] [tL 3]<|
 .ret [[.v 0]])) (
 .op (.lit 3 []) [] [tL 3]<|
 .op (.app 3 true) [.v 0, .v 11] [tL 3]<|
 .ret [[.v 0]])
def lb95:List (Key×List (Nat×List Ty)):=[]
theorem m95:mt 95 Tryz.f95 [] [] [] lb95=some (t95_0,[]):=by kernel_rfl
def t103_0:T:=
.op (.len) [.v 0] [tI]<|
.op (.mk [.int .i64 0, .int .i64 0]) [.v 0] [tL 2]<|
.go 0 [.v 2, .v 0, .k (.int .i64 0)]
def t103_1:T:=
.op (.len) [.v 2] [tI]<|
.op (.bin .lss) [.v 1, .v 0] [tB]<|
.ite (.v 0) (
 .op (.row 2) [.v 4, .v 2] [tI,tI]<|
 .call 132 [[.v 1, .v 0]] [[tI,tI]]<|
 .op (.idx 2) [.v 7, .v 6] [tI]<|
 .op (.putp [] 0 2 true) [.v 8, .v 0, .v 2, .v 1] [tL 2]<|
 .op (.bin .add) [.v 8, .k (.int .i64 1)] [tI]<|
 .go 0 [.v 11, .v 1, .v 0]) (
 .ret [[.v 3]])
def lb103:List (Key×List (Nat×List Ty)):=[(.head 0,[(0,[tL 2]),(3,[tL 2]),(4,[tI])])]
theorem m103:mt 103 Tryz.f103 [] [] [] lb103=some (t103_0,[t103_1]):=by kernel_rfl
def t105_0:T:=
.ret [[.v 1, .v 0]]
def lb105:List (Key×List (Nat×List Ty)):=[]
theorem m105:mt 105 Tryz.f105 [] [] [] lb105=some (t105_0,[]):=by kernel_rfl
def t114_0:T:=
.op (.len) [.v 1] [tI]<|
.op (.len) [.v 1] [tI]<|
.op (.bin .neq) [.v 1, .v 0] [tB]<|
.ite (.v 0) (
 .ret [[.k (.bool false)]]) (
 .go 0 [.v 4, .v 3, .k (.int .i64 0)])
def t114_1:T:=
.op (.len) [.v 2] [tI]<|
.op (.bin .lss) [.v 1, .v 0] [tB]<|
.ite (.v 0) (
 .op (.row 1) [.v 4, .v 2] [tI]<|
 .op (.row 1) [.v 4, .v 3] [tI]<|
 .op (.bin .neq) [.v 1, .v 0] [tB]<|
 .ite (.v 0) (
 .ret [[.k (.bool false)]]) (
 .op (.bin .add) [.v 5, .k (.int .i64 1)] [tI]<|
 .go 0 [.v 8, .v 7, .v 0])) (
 .ret [[.k (.bool true)]])
def lb114:List (Key×List (Nat×List Ty)):=[(.head 0,[(0,[tL 1]),(1,[tL 1]),(5,[tI])])]
theorem m114:mt 114 Tryz.f114 [] [] [] lb114=some (t114_0,[t114_1]):=by kernel_rfl
def t127_0:T:=
.op (.bin .eql) [.v 11, .k (.int .i64 0)] [tB]<|
.ite (.v 0) (
 .op (.row 1) [.v 9, .k (.int .i64 0)] [tL 5]<|
 .call 147 [[.v 0],[.v 6, .v 5, .v 4, .v 3]] [[tI,tI,tS]]<|
 .call 146 [[.v 2, .v 1, .v 0]] [[tS]]<|
 .op (.lit 5 [5]) [.k (.int .i64 (-1)), .k (.int .i64 (-1)), .v 0, .k (.sl 4 []), .k (.sl 5 [])] [tL 5]<|
 .ret [[.v 0],[.v 21, .v 20, .v 19]]) (
 .op (.bin .eql) [.v 12, .k (.int .i64 1)] [tB]<|
 .ite (.v 0) (
 .call 148 [[.v 16, .v 15, .v 14],[.v 13, .v 12, .v 11, .v 10, .v 9, .v 8, .v 7],[.v 6, .v 5, .v 4, .v 3],[.v 2]] [[tI,tI,tS,tL 4,tL 5],[tL 4,tL 2,tI]]<|
 .op (.lit 5 [5]) [.v 7, .v 6, .v 5, .v 4, .v 3] [tL 5]<|
 .ret [[.v 0],[.v 3, .v 2, .v 1]]) (
 .op (.bin .eql) [.v 13, .k (.int .i64 2)] [tB]<|
 .ite (.v 0) (
 .op (.row 1) [.v 11, .k (.int .i64 0)] [tL 5]<|
 .call 147 [[.v 0],[.v 8, .v 7, .v 6, .v 5]] [[tI,tI,tS]]<|
 .call 149 [[.v 2, .v 1, .v 0]] [[tB]]<|
 .ite (.v 0) (
 .op (.row 7) [.v 13, .k (.int .i64 0)] [tI,tI,tL 1,tL 1,tL 5,tL 2,tL 7]<|
 .call 128 [[.v 15],[.k (.int .i64 0)],[.k (.int .i64 0)]] [[tL 2]]<|
 .call 127 [[.v 30, .v 29, .v 28],[.v 7, .v 6, .v 5, .v 4, .v 3, .v 2, .v 1],[.v 20, .v 19, .v 18, .v 17],[.v 0]] [[tL 5],[tL 4,tL 2,tI]]<|
 .ret [[.v 3],[.v 2, .v 1, .v 0]]) (
 .op (.len) [.v 13] [tI]<|
 .op (.bin .gtr) [.v 0, .k (.int .i64 1)] [tB]<|
 .ite (.v 0) (
 .op (.row 7) [.v 15, .k (.int .i64 1)] [tI,tI,tL 1,tL 1,tL 5,tL 2,tL 7]<|
 .call 128 [[.v 17],[.k (.int .i64 1)],[.k (.int .i64 0)]] [[tL 2]]<|
 .call 127 [[.v 32, .v 31, .v 30],[.v 7, .v 6, .v 5, .v 4, .v 3, .v 2, .v 1],[.v 22, .v 21, .v 20, .v 19],[.v 0]] [[tL 5],[tL 4,tL 2,tI]]<|
 .ret [[.v 3],[.v 2, .v 1, .v 0]]) (
 .ret [[.k (.sl 5 [])],[.v 24, .v 23, .v 22]]))) (
 .op (.bin .eql) [.v 14, .k (.int .i64 3)] [tB]<|
 .ite (.v 0) (
 .call 150 [[.v 18, .v 17, .v 16],[.v 15, .v 14, .v 13, .v 12, .v 11, .v 10, .v 9],[.v 8, .v 7, .v 6, .v 5],[.v 4]] [[tL 5],[tL 4,tL 2,tI]]<|
 .ret [[.v 3],[.v 2, .v 1, .v 0]]) (
 .op (.bin .eql) [.v 15, .k (.int .i64 4)] [tB]<|
 .ite (.v 0) (
 .call 151 [[.v 13],[.v 9, .v 8, .v 7, .v 6]] [[tL 3]]<|
 .op (.lit 3 []) [] [tL 3]<|
 .op (.app 3 true) [.v 0, .v 8] [tL 3]<|
 .op (.lit 4 [4]) [.v 8, .v 18, .v 2, .v 0] [tL 4]<|
 .op (.app 4 false) [.v 23, .v 0] [tL 4]<|
 .op (.lit 5 [5]) [.k (.int .i64 (-2)), .k (.int .i64 (-1)), .k (.str []), .k (.sl 4 []), .k (.sl 5 [])] [tL 5]<|
 .ret [[.v 0],[.v 1, .v 24, .v 23]]) (
 .op (.lit 3 []) [] [tL 3]<|
 .op (.app 3 true) [.v 0, .v 7] [tL 3]<|
 .op (.row 1) [.v 15, .k (.int .i64 0)] [tL 5]<|
 .call 147 [[.v 0],[.v 12, .v 11, .v 10, .v 9]] [[tI,tI,tS]]<|
 .op (.idx 3) [.v 4, .v 21] [tI]<|
 .op (.putp [] 0 3 true) [.v 5, .v 0, .v 3, .v 2, .v 1] [tL 3]<|
 .call 152 [[.v 27, .v 26, .v 25],[.v 18],[.v 17, .v 16, .v 15, .v 0],[.v 13]] [[tL 5],[tL 4,tL 2,tI]]<|
 .ret [[.v 3],[.v 2, .v 1, .v 0]])))))
def lb127:List (Key×List (Nat×List Ty)):=[]
theorem m127:mt 127 Tryz.f127 [] [] [] lb127=some (t127_0,[]):=by kernel_rfl
def t131_0:T:=
.call 98 [[.v 2, .v 1, .v 0]] [[tI,tI,tS]]<|
.ret [[.v 7, .v 6, .v 2, .v 1, .v 0]]
def lb131:List (Key×List (Nat×List Ty)):=[]
theorem m131:mt 131 Tryz.f131 [] [] [] lb131=some (t131_0,[]):=by kernel_rfl
def t142_0:T:=
.op (.bin .neq) [.v 3, .v 1] [tB]<|
.ite (.v 0) (
 .ret [[.k (.bool false)]]) (
 .call 116 [[.v 3],[.v 1]] [[tB]]<|
 .op (.not) [.v 0] [tB]<|
 .ite (.v 0) (
 .ret [[.k (.bool false)]]) (
 .ret [[.k (.bool true)]]))
def lb142:List (Key×List (Nat×List Ty)):=[]
theorem m142:mt 142 Tryz.f142 [] [] [] lb142=some (t142_0,[]):=by kernel_rfl
def t158_0:T:=
.op (.bin .eql) [.v 8, .k (.int .i64 1)] [tB]<|
.ite (.v 0) (
 .op (.row 3) [.v 4, .v 8] [tI,tI,tS]<|
 .ret [[.v 2, .v 1, .v 0]]) (
 .op (.bin .eql) [.v 9, .k (.int .i64 2)] [tB]<|
 .ite (.v 0) (
 .op (.row 3) [.v 4, .v 9] [tI,tI,tS]<|
 .ret [[.v 2, .v 1, .v 0]]) (
 .op (.bin .eql) [.v 10, .k (.int .i64 3)] [tB]<|
 .ite (.v 0) (
 .op (.len) [.v 4] [tI]<|
 .op (.bin .sub) [.v 0, .k (.int .i64 1)] [tI]<|
 .op (.bin .sub) [.v 0, .v 12] [tI]<|
 .op (.row 1) [.v 7, .v 0] [tI]<|
 .call 165 [[.v 0]] [[tI,tI,tS]]<|
 .ret [[.v 2, .v 1, .v 0]]) (
 .op (.bin .eql) [.v 11, .k (.int .i64 4)] [tB]<|
 .ite (.v 0) (
 .op (.row 3) [.v 4, .v 11] [tI,tI,tS]<|
 .ret [[.v 2, .v 1, .v 0]]) (
 .ret [[.v 10, .v 9, .v 8]]))))
def lb158:List (Key×List (Nat×List Ty)):=[]
theorem m158:mt 158 Tryz.f158 [] [] [] lb158=some (t158_0,[]):=by kernel_rfl
def t164_0:T:=
.ite (.v 0) (
 .call 165 [[.k (.int .i64 1)]] [[tI,tI,tS]]<|
 .ret [[.v 2, .v 1, .v 0]]) (
 .call 165 [[.k (.int .i64 0)]] [[tI,tI,tS]]<|
 .ret [[.v 2, .v 1, .v 0]])
def lb164:List (Key×List (Nat×List Ty)):=[]
theorem m164:mt 164 Tryz.f164 [] [] [] lb164=some (t164_0,[]):=by kernel_rfl
end Go.Own
