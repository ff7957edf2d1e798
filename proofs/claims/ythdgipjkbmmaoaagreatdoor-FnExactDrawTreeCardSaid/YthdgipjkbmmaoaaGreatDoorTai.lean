/- A part of the proof that the last text of this folder tells of. -/
import Derived.Test.YthdgipjkbmmaoaaGreatDoorTae
import Derived.Test.YthdgipjkbmmaoaaGreatDoorTah
set_option maxRecDepth 100000
namespace Go.Own
open Go Go.Proofs
def t9_0:T:=
.call 24 [[.v 1]] [[tB]]<|
.op (.not) [.v 0] [tB]<|
.ite (.v 0) (
 .ret [[.k (.int .i64 0), .k (.int .i64 0), .k (.str []), .k (.sl 4 []), .k (.sl 5 [])]]) (
 .call 25 [[.v 2]] [[tB]]<|
 .op (.not) [.v 0] [tB]<|
 .ite (.v 0) (
 .ret [[.k (.int .i64 0), .k (.int .i64 0), .k (.str []), .k (.sl 4 []), .k (.sl 5 [])]]) (
 .call 28 [] [[tL 2,tI,tL 3,tL 3]]<|
 .call 27 [[.v 9],[.v 8],[.v 3, .v 2, .v 1, .v 0]] [[tL 8]]<|
 .call 26 [[.v 0]] [[tI,tI,tS,tL 4,tL 5]]<|
 .ret [[.v 4, .v 3, .v 2, .v 1, .v 0]]))
def lb9:List (Key×List (Nat×List Ty)):=[]
theorem m9:mt 9 Tryz.f9 [] [] [] lb9=some (t9_0,[]):=by kernel_rfl
def t14_0:T:=
.go 0 [.v 1, .v 0, .k (.int .i64 0)]
def t14_1:T:=
.op (.len) [.v 2] [tI]<|
.op (.bin .lss) [.v 1, .v 0] [tB]<|
.ite (.v 0) (
 .op (.idx 2) [.v 4, .v 2] [tI]<|
 .op (.at [0]) [.v 5, .v 0] [tL 2]<|
 .op (.at [0]) [.v 6, .v 1] [tL 2]<|
 .op (.hole [0]) [.v 7, .v 2] [tL 2]<|
 .call 40 [[.v 1],[.v 7]] [[tI],[tL 2]]<|
 .op (.setAt [0]) [.v 2, .v 0, .v 5] [tL 2]<|
 .op (.idx 2) [.v 0, .v 9] [tI]<|
 .op (.at [1]) [.v 1, .v 0] [tL 3]<|
 .op (.at [1]) [.v 2, .v 1] [tL 3]<|
 .op (.hole [1]) [.v 3, .v 2] [tL 2]<|
 .call 33 [[.v 1],[.v 6]] [[tI],[tL 3]]<|
 .op (.setAt [1]) [.v 2, .v 0, .v 5] [tL 2]<|
 .op (.bin .add) [.v 16, .k (.int .i64 1)] [tI]<|
 .go 0 [.v 1, .v 3, .v 0]) (
 .ret [[.v 3],[.v 4]])
def lb14:List (Key×List (Nat×List Ty)):=[(.head 0,[(0,[tL 2]),(1,[tI]),(5,[tI])])]
theorem m14:mt 14 Tryz.f14 [] [] [(0,0,[0],tL 2),(0,0,[1],tL 3)] lb14=some (t14_0,[t14_1]):=by kernel_rfl
def t15_0:T:=
.call 41 [[.v 2],[.v 0]] [[tI],[tL 4]]<|
.call 42 [[.v 3],[.v 1]] [[tI],[tL 5]]<|
.ret [[.v 1],[.v 2, .v 0]]
def lb15:List (Key×List (Nat×List Ty)):=[]
theorem m15:mt 15 Tryz.f15 (List.range 1) [] [] lb15=some (t15_0,[]):=by kernel_rfl
def t21_0:T:=
.call 57 [] [[tL 2,tI,tL 3,tL 3]]<|
.call 56 [[.v 5],[.v 4],[.v 3, .v 2, .v 1, .v 0]] [[tL 5,tL 8]]<|
.call 58 [[.v 1]] [[tI,tI,tS,tL 4,tL 5]]<|
.ret [[.v 4, .v 3, .v 2, .v 1, .v 0, .v 5]]
def lb21:List (Key×List (Nat×List Ty)):=[]
theorem m21:mt 21 Tryz.f21 [] [] [] lb21=some (t21_0,[]):=by kernel_rfl
def t39_0:T:=
.go 0 [.v 1, .v 0, .k (.int .i64 0)]
def t39_1:T:=
.op (.len) [.v 2] [tI]<|
.op (.bin .lss) [.v 1, .v 0] [tB]<|
.ite (.v 0) (
 .op (.idx 7) [.v 4, .v 2] [tI]<|
 .op (.putp [] 0 7 true) [.v 5, .v 0, .v 4] [tL 7]<|
 .op (.bin .add) [.v 5, .k (.int .i64 1)] [tI]<|
 .op (.idx 7) [.v 1, .v 5] [tI]<|
 .op (.putp [] 1 7 true) [.v 2, .v 0, .v 1] [tL 7]<|
 .op (.bin .add) [.v 2, .k (.int .i64 1)] [tI]<|
 .op (.idx 7) [.v 1, .v 8] [tI]<|
 .op (.at [2]) [.v 2, .v 0] [tL 1]<|
 .op (.at [2]) [.v 3, .v 1] [tL 1]<|
 .op (.hole [2]) [.v 4, .v 2] [tL 7]<|
 .call 35 [[.v 1],[.v 4]] [[tI],[tL 1]]<|
 .op (.setAt [2]) [.v 2, .v 0, .v 5] [tL 7]<|
 .op (.idx 7) [.v 0, .v 15] [tI]<|
 .op (.at [3]) [.v 1, .v 0] [tL 1]<|
 .op (.at [3]) [.v 2, .v 1] [tL 1]<|
 .op (.hole [3]) [.v 3, .v 2] [tL 7]<|
 .call 36 [[.v 1],[.v 6]] [[tI],[tL 1]]<|
 .op (.setAt [3]) [.v 2, .v 0, .v 5] [tL 7]<|
 .op (.idx 7) [.v 0, .v 22] [tI]<|
 .op (.at [4]) [.v 1, .v 0] [tL 5]<|
 .op (.at [4]) [.v 2, .v 1] [tL 5]<|
 .op (.hole [4]) [.v 3, .v 2] [tL 7]<|
 .call 37 [[.v 1],[.v 6]] [[tI],[tL 5]]<|
 .op (.setAt [4]) [.v 2, .v 0, .v 5] [tL 7]<|
 .op (.idx 7) [.v 0, .v 29] [tI]<|
 .op (.at [5]) [.v 1, .v 0] [tL 2]<|
 .op (.at [5]) [.v 2, .v 1] [tL 2]<|
 .op (.hole [5]) [.v 3, .v 2] [tL 7]<|
 .call 38 [[.v 1],[.v 6]] [[tI],[tL 2]]<|
 .op (.setAt [5]) [.v 2, .v 0, .v 5] [tL 7]<|
 .op (.idx 7) [.v 0, .v 36] [tI]<|
 .op (.at [6]) [.v 1, .v 0] [tL 7]<|
 .op (.at [6]) [.v 2, .v 1] [tL 7]<|
 .op (.hole [6]) [.v 3, .v 2] [tL 7]<|
 .call 39 [[.v 1],[.v 6]] [[tI],[tL 7]]<|
 .op (.setAt [6]) [.v 2, .v 0, .v 5] [tL 7]<|
 .op (.bin .add) [.v 43, .k (.int .i64 1)] [tI]<|
 .go 0 [.v 1, .v 3, .v 0]) (
 .ret [[.v 3],[.v 4]])
def lb39:List (Key×List (Nat×List Ty)):=[(.head 0,[(0,[tL 7]),(1,[tI]),(5,[tI])])]
theorem m39:mt 39 Tryz.f39 [] [] [(0,0,[2],tL 1),(0,0,[3],tL 1),(0,0,[4],tL 5),(0,0,[5],tL 2),(0,0,[6],tL 7)] lb39=some (t39_0,[t39_1]):=by kernel_rfl
def t47_0:T:=
.call 82 [[.v 5],[.v 0]] [[tI]]<|
.op (.bin .lss) [.v 0, .k (.int .i64 0)] [tB]<|
.ite (.v 0) (
 .ret [[.k (.int .i64 (-1))]]) (
 .call 83 [[.v 6],[.v 1]] [[tI]]<|
 .op (.bin .lss) [.v 0, .k (.int .i64 0)] [tB]<|
 .ite (.v 0) (
 .ret [[.k (.int .i64 (-1))]]) (
 .call 84 [[.v 7],[.v 1]] [[tI]]<|
 .op (.bin .lss) [.v 0, .k (.int .i64 0)] [tB]<|
 .ite (.v 0) (
 .ret [[.k (.int .i64 (-1))]]) (
 .call 85 [[.v 8],[.v 1]] [[tI]]<|
 .op (.bin .lss) [.v 0, .k (.int .i64 0)] [tB]<|
 .ite (.v 0) (
 .ret [[.k (.int .i64 (-1))]]) (
 .call 86 [[.v 9],[.v 1]] [[tI]]<|
 .op (.bin .lss) [.v 0, .k (.int .i64 0)] [tB]<|
 .ite (.v 0) (
 .ret [[.k (.int .i64 (-1))]]) (
 .ret [[.v 1]])))))
def lb47:List (Key×List (Nat×List Ty)):=[]
theorem m47:mt 47 Tryz.f47 [] [] [] lb47=some (t47_0,[]):=by kernel_rfl
def t49_0:T:=
.op (.bin .geq) [.v 2, .v 1] [tB]<|
.ite (.v 0) (
 .op (.bin .leq) [.v 3, .v 1] [tB]<|
 .ret [[.v 0]]) (
 .ret [[.k (.bool false)]])
def lb49:List (Key×List (Nat×List Ty)):=[]
theorem m49:mt 49 Tryz.f49 [] [] [] lb49=some (t49_0,[]):=by kernel_rfl
def t59_0:T:=
.op (.len) [.v 0] [tI]<|
.op (.mk [.int .i64 0, .int .i64 0, .str []]) [.v 0] [tL 3]<|
.go 0 [.v 2, .v 0, .k (.int .i64 0)]
def t59_1:T:=
.op (.len) [.v 2] [tI]<|
.op (.bin .lss) [.v 1, .v 0] [tB]<|
.ite (.v 0) (
 .op (.row 3) [.v 4, .v 2] [tI,tI,tS]<|
 .call 98 [[.v 2, .v 1, .v 0]] [[tI,tI,tS]]<|
 .op (.idx 3) [.v 9, .v 8] [tI]<|
 .op (.putp [] 0 3 true) [.v 10, .v 0, .v 3, .v 2, .v 1] [tL 3]<|
 .op (.bin .add) [.v 10, .k (.int .i64 1)] [tI]<|
 .go 0 [.v 13, .v 1, .v 0]) (
 .ret [[.v 3]])
def lb59:List (Key×List (Nat×List Ty)):=[(.head 0,[(0,[tL 3]),(3,[tL 3]),(4,[tI])])]
theorem m59:mt 59 Tryz.f59 [] [] [] lb59=some (t59_0,[t59_1]):=by kernel_rfl
def t61_0:T:=
.call 100 [[.v 4]] [[tL 1]]<|
.call 101 [[.v 4]] [[tL 1]]<|
.call 102 [[.v 4]] [[tL 5]]<|
.call 103 [[.v 4]] [[tL 2]]<|
.call 104 [[.v 4]] [[tL 7]]<|
.ret [[.v 11, .v 10, .v 4, .v 3, .v 2, .v 1, .v 0]]
def lb61:List (Key×List (Nat×List Ty)):=[]
theorem m61:mt 61 Tryz.f61 [] [] [] lb61=some (t61_0,[]):=by kernel_rfl
def t70_0:T:=
.op (.len) [.v 0] [tI]<|
.go 0 [.v 5, .v 4, .v 3, .v 2, .v 1, .k (.int .i64 0), .k (.int .i64 0), .k (.str []), .k (.sl 4 []), .k (.sl 5 []), .k (.bool true), .k (.mp []), .v 0, .k (.int .i64 0)]
def t70_1:T:=
.op (.bin .lss) [.v 0, .v 1] [tB]<|
.ite (.v 0) (
 .op (.idx 5) [.v 10, .v 1] [tI]<|
 .op (.at [1]) [.v 11, .v 0] [tI]<|
 .op (.bin .neq) [.v 0, .k (.int .i64 (-1))] [tB]<|
 .ite (.v 0) (
 .op (.mget) [.v 6, .v 1] [tB]<|
 .ite (.v 0) (
 .op (.idx 5) [.v 14, .v 5] [tI]<|
 .op (.putp [] 1 5 true) [.v 15, .v 0, .k (.int .i64 (-1))] [tL 5]<|
 .go 1 [.v 20, .v 19, .v 18, .v 17, .v 0, .v 15, .v 14, .v 13, .v 12, .v 11, .v 10, .v 7, .v 4, .v 9, .v 8, .v 7]) (
 .go 1 [.v 18, .v 17, .v 16, .v 15, .v 14, .v 13, .v 12, .v 11, .v 10, .v 9, .v 8, .v 5, .v 2, .v 7, .v 6, .v 5])) (
 .go 1 [.v 17, .v 16, .v 15, .v 14, .v 13, .v 12, .v 11, .v 10, .v 9, .v 8, .v 7, .v 4, .v 1, .v 6, .v 5, .v 4])) (
 .ret [[.v 14, .v 13, .v 12, .v 11, .v 10]])
def t70_2:T:=
.op (.mput) [.v 2, .v 3, .k (.bool true)] [tM]<|
.op (.idx 5) [.v 12, .v 5] [tI]<|
.op (.at [0]) [.v 13, .v 0] [tI]<|
.op (.at [1]) [.v 14, .v 1] [tI]<|
.op (.at [2]) [.v 15, .v 2] [tS]<|
.op (.at [3]) [.v 16, .v 3] [tL 4]<|
.op (.at [4]) [.v 17, .v 4] [tL 5]<|
.op (.at [3]) [.v 18, .v 5] [tL 4]<|
.op (.at [4]) [.v 19, .v 6] [tL 5]<|
.op (.hole [3]) [.v 20, .v 7] [tL 5]<|
.op (.hole [4]) [.v 0, .v 8] [tL 5]<|
.call 70 [[.v 8, .v 7, .v 6, .v 3, .v 2]] [[tI,tI,tS,tL 4,tL 5]]<|
.op (.idx 5) [.v 5, .v 20] [tI]<|
.op (.putp [] 0 5 false) [.v 6, .v 0, .v 5, .v 4, .v 3, .v 2, .v 1] [tL 5]<|
.op (.bin .add) [.v 18, .k (.int .i64 1)] [tI]<|
.go 0 [.v 34, .v 33, .v 32, .v 31, .v 1, .v 29, .v 28, .v 27, .v 26, .v 25, .v 24, .v 18, .v 20, .v 0]
def lb70:List (Key×List (Nat×List Ty)):=[(.head 0,[(1,[tI,tI,tS,tL 4,tL 5]),(2,[tI,tI,tS,tL 4,tL 5]),(3,[tB]),(6,[tM]),(9,[tI]),(10,[tI])]),(.jn 25,[(1,[tI,tI,tS,tL 4,tL 5]),(2,[tI,tI,tS,tL 4,tL 5]),(3,[tB]),(4,[tI]),(5,[tI]),(6,[tM]),(9,[tI]),(10,[tI])])]
theorem m70:mt 70 Tryz.f70 [] [] [(1,4,[1],tI),(1,4,[0],tI),(1,4,[2],tS),(1,4,[3],tL 4),(1,4,[4],tL 5)] lb70=some (t70_0,[t70_1,t70_2]):=by kernel_rfl
def t75_0:T:=
.op (.len) [.v 1] [tI]<|
.op (.len) [.v 1] [tI]<|
.op (.bin .neq) [.v 1, .v 0] [tB]<|
.ite (.v 0) (
 .ret [[.k (.bool false)]]) (
 .go 0 [.v 4, .v 3, .k (.int .i64 0)])
def t75_1:T:=
.op (.len) [.v 2] [tI]<|
.op (.bin .lss) [.v 1, .v 0] [tB]<|
.ite (.v 0) (
 .op (.row 1) [.v 4, .v 2] [tL 2]<|
 .op (.row 1) [.v 4, .v 3] [tL 2]<|
 .call 113 [[.v 1],[.v 0]] [[tB]]<|
 .op (.not) [.v 0] [tB]<|
 .ite (.v 0) (
 .ret [[.k (.bool false)]]) (
 .op (.bin .add) [.v 6, .k (.int .i64 1)] [tI]<|
 .go 0 [.v 9, .v 8, .v 0])) (
 .ret [[.k (.bool true)]])
def lb75:List (Key×List (Nat×List Ty)):=[(.head 0,[(0,[tL 1]),(1,[tL 1]),(5,[tI])])]
theorem m75:mt 75 Tryz.f75 [] [] [] lb75=some (t75_0,[t75_1]):=by kernel_rfl
def t85_0:T:=
.op (.len) [.v 1] [tI]<|
.op (.bin .sub) [.v 1, .v 0] [tI]<|
.op (.bin .lss) [.v 0, .k (.int .i64 0)] [tB]<|
.ite (.v 0) (
 .ret [[.k (.int .i64 (-1))]]) (
 .ret [[.v 1]])
def lb85:List (Key×List (Nat×List Ty)):=[]
theorem m85:mt 85 Tryz.f85 [] [] [] lb85=some (t85_0,[]):=by kernel_rfl
def t91_0:T:=
.go 0 [.v 3, .v 2, .v 1, .v 0, .k (.int .i64 0)]
def t91_1:T:=
.op (.len) [.v 4] [tI]<|
.op (.bin .lss) [.v 1, .v 0] [tB]<|
.ite (.v 0) (
 .op (.row 1) [.v 6, .v 2] [tL 5]<|
 .call 88 [[.v 0],[.v 6],[.v 5],[.v 4]] [[tB]]<|
 .op (.not) [.v 0] [tB]<|
 .ite (.v 0) (
 .ret [[.k (.bool false)]]) (
 .op (.bin .add) [.v 5, .k (.int .i64 1)] [tI]<|
 .go 0 [.v 10, .v 9, .v 8, .v 7, .v 0])) (
 .ret [[.k (.bool true)]])
def lb91:List (Key×List (Nat×List Ty)):=[(.head 0,[(0,[tL 1]),(1,[tI]),(2,[tI]),(3,[tI]),(9,[tI])])]
theorem m91:mt 91 Tryz.f91 [] [] [] lb91=some (t91_0,[t91_1]):=by kernel_rfl
def t92_0:T:=
.go 0 [.v 0, .v 7, .v 6, .v 5, .v 4, .v 3, .v 2, .v 1, .k (.int .i64 1), .k (.int .i64 0)]
def t92_1:T:=
.op (.len) [.v 2] [tI]<|
.op (.bin .lss) [.v 1, .v 0] [tB]<|
.ite (.v 0) (
 .op (.row 7) [.v 4, .v 2] [tI,tI,tL 1,tL 1,tL 5,tL 2,tL 7]<|
 .call 92 [[.v 6, .v 5, .v 4, .v 3, .v 2, .v 1, .v 0],[.v 18]] [[tI]]<|
 .op (.bin .eql) [.v 18, .k (.int .i64 3)] [tB]<|
 .ite (.v 0) (
 .op (.bin .mul) [.v 1, .k (.int .i64 4)] [tI]<|
 .op (.bin .add) [.v 13, .v 0] [tI]<|
 .op (.bin .add) [.v 13, .k (.int .i64 1)] [tI]<|
 .go 0 [.v 23, .v 22, .v 21, .v 20, .v 19, .v 18, .v 17, .v 16, .v 1, .v 0]) (
 .op (.bin .add) [.v 12, .v 1] [tI]<|
 .op (.bin .add) [.v 12, .k (.int .i64 1)] [tI]<|
 .go 0 [.v 22, .v 21, .v 20, .v 19, .v 18, .v 17, .v 16, .v 15, .v 1, .v 0])) (
 .op (.bin .eql) [.v 10, .k (.int .i64 4)] [tB]<|
 .ite (.v 0) (
 .op (.len) [.v 12] [tI]<|
 .op (.bin .sub) [.v 0, .k (.int .i64 1)] [tI]<|
 .call 49 [[.v 12],[.k (.int .i64 0)],[.v 0]] [[tB]]<|
 .ite (.v 0) (
 .op (.row 1) [.v 15, .v 13] [tI]<|
 .op (.bin .add) [.v 8, .v 0] [tI]<|
 .op (.mm false) [.v 0, .k (.int .i64 201)] [tI]<|
 .ret [[.v 0]]) (
 .op (.mm false) [.v 7, .k (.int .i64 201)] [tI]<|
 .ret [[.v 0]])) (
 .op (.mm false) [.v 4, .k (.int .i64 201)] [tI]<|
 .ret [[.v 0]]))
def lb92:List (Key×List (Nat×List Ty)):=[(.head 0,[(1,[tL 1]),(2,[tI,tI,tL 1,tL 1,tL 5,tL 2,tL 7]),(5,[tI]),(6,[tI])])]
theorem m92:mt 92 Tryz.f92 [] [] [] lb92=some (t92_0,[t92_1]):=by kernel_rfl
def t100_0:T:=
.op (.len) [.v 0] [tI]<|
.op (.mk [.int .i64 0]) [.v 0] [tL 1]<|
.go 0 [.v 2, .v 0, .k (.int .i64 0)]
def t100_1:T:=
.op (.len) [.v 2] [tI]<|
.op (.bin .lss) [.v 1, .v 0] [tB]<|
.ite (.v 0) (
 .op (.row 1) [.v 4, .v 2] [tI]<|
 .op (.idx 1) [.v 4, .v 3] [tI]<|
 .op (.putp [] 0 1 true) [.v 5, .v 0, .v 1] [tL 1]<|
 .op (.bin .add) [.v 5, .k (.int .i64 1)] [tI]<|
 .go 0 [.v 8, .v 1, .v 0]) (
 .ret [[.v 3]])
def lb100:List (Key×List (Nat×List Ty)):=[(.head 0,[(0,[tL 1]),(3,[tL 1]),(4,[tI])])]
theorem m100:mt 100 Tryz.f100 [] [] [] lb100=some (t100_0,[t100_1]):=by kernel_rfl
def t115_0:T:=
.op (.len) [.v 1] [tI]<|
.op (.len) [.v 1] [tI]<|
.op (.bin .neq) [.v 1, .v 0] [tB]<|
.ite (.v 0) (
 .ret [[.k (.bool false)]]) (
 .go 0 [.v 4, .v 3, .k (.int .i64 0)])
def t115_1:T:=
.op (.len) [.v 2] [tI]<|
.op (.bin .lss) [.v 1, .v 0] [tB]<|
.ite (.v 0) (
 .op (.row 1) [.v 4, .v 2] [tL 5]<|
 .op (.row 1) [.v 4, .v 3] [tL 5]<|
 .call 116 [[.v 1],[.v 0]] [[tB]]<|
 .op (.not) [.v 0] [tB]<|
 .ite (.v 0) (
 .ret [[.k (.bool false)]]) (
 .op (.bin .add) [.v 6, .k (.int .i64 1)] [tI]<|
 .go 0 [.v 9, .v 8, .v 0])) (
 .ret [[.k (.bool true)]])
def lb115:List (Key×List (Nat×List Ty)):=[(.head 0,[(0,[tL 1]),(1,[tL 1]),(5,[tI])])]
theorem m115:mt 115 Tryz.f115 [] [] [] lb115=some (t115_0,[t115_1]):=by kernel_rfl
def t133_0:T:=
.op (.len) [.v 3] [tI]<|
.go 0 [.v 4, .v 3, .v 2, .v 1, .k (.int .i64 0), .v 4, .v 0, .k (.int .i64 0)]
def t133_1:T:=
.op (.bin .lss) [.v 0, .v 1] [tB]<|
.ite (.v 0) (
 .op (.row 5) [.v 3, .v 1] [tI,tI,tI,tI,tS]<|
 .op (.bin .neq) [.v 4, .k (.int .i64 0)] [tB]<|
 .ite (.v 0) (
 .op (.eqs true 3 [.int .i64 0, .int .i64 0, .str []]) [.v 3, .v 2, .v 1, .k (.int .i64 0), .k (.int .i64 0), .k (.str [])] [tB]<|
 .ite (.v 0) (
 .ret [[.k (.bool false)]]) (
 .go 1 [.v 15, .v 14, .v 13, .v 12, .v 11, .v 6, .v 5, .v 4, .v 3, .v 2, .v 10, .v 9, .v 8])) (
 .go 1 [.v 14, .v 13, .v 12, .v 11, .v 10, .v 5, .v 4, .v 3, .v 2, .v 1, .v 9, .v 8, .v 7])) (
 .op (.bin .eql) [.v 4, .k (.int .i64 1)] [tB]<|
 .ite (.v 0) (
 .op (.len) [.v 9] [tI]<|
 .op (.bin .leq) [.v 0, .k (.int .i64 9)] [tB]<|
 .ret [[.v 0]]) (
 .ret [[.k (.bool false)]]))
def t133_2:T:=
.op (.bin .eql) [.v 7, .k (.int .i64 0)] [tB]<|
.ite (.v 0) (
 .op (.bin .eql) [.v 7, .k (.int .i64 0)] [tB]<|
 .ite (.v 0) (
 .call 108 [[.v 7, .v 6, .v 5]] [[tB]]<|
 .go 2 [.v 15, .v 14, .v 13, .v 12, .v 11, .k (.int .i64 0), .v 0, .v 5, .v 4, .v 3]) (
 .go 2 [.v 14, .v 13, .v 12, .v 11, .v 10, .k (.int .i64 0), .k (.bool false), .v 4, .v 3, .v 2])) (
 .op (.bin .eql) [.v 8, .k (.int .i64 1)] [tB]<|
 .ite (.v 0) (
 .op (.bin .sub) [.v 13, .k (.int .i64 1)] [tI]<|
 .call 63 [[.v 9],[.k (.int .i64 0)],[.v 0]] [[tB]]<|
 .go 2 [.v 16, .v 15, .v 14, .v 13, .v 12, .k (.int .i64 0), .v 0, .v 6, .v 5, .v 4]) (
 .op (.bin .eql) [.v 9, .k (.int .i64 2)] [tB]<|
 .ite (.v 0) (
 .op (.bin .sub) [.v 13, .k (.int .i64 1)] [tI]<|
 .call 63 [[.v 10],[.k (.int .i64 0)],[.v 0]] [[tB]]<|
 .go 2 [.v 17, .v 16, .v 15, .v 14, .v 13, .k (.int .i64 0), .v 0, .v 7, .v 6, .v 5]) (
 .op (.bin .eql) [.v 10, .k (.int .i64 3)] [tB]<|
 .ite (.v 0) (
 .op (.bin .sub) [.v 13, .k (.int .i64 1)] [tI]<|
 .call 63 [[.v 11],[.k (.int .i64 0)],[.v 0]] [[tB]]<|
 .go 2 [.v 18, .v 17, .v 16, .v 15, .v 14, .k (.int .i64 0), .v 0, .v 8, .v 7, .v 6]) (
 .op (.bin .eql) [.v 11, .k (.int .i64 4)] [tB]<|
 .ite (.v 0) (
 .call 63 [[.v 11],[.k (.int .i64 0)],[.k (.int .i64 1)]] [[tB]]<|
 .go 2 [.v 18, .v 17, .v 16, .v 15, .v 14, .k (.int .i64 0), .v 0, .v 8, .v 7, .v 6]) (
 .op (.bin .eql) [.v 12, .k (.int .i64 5)] [tB]<|
 .ite (.v 0) (
 .call 63 [[.v 12],[.k (.int .i64 0)],[.k (.int .i64 6)]] [[tB]]<|
 .go 2 [.v 19, .v 18, .v 17, .v 16, .v 15, .k (.int .i64 2), .v 0, .v 9, .v 8, .v 7]) (
 .op (.bin .eql) [.v 13, .k (.int .i64 6)] [tB]<|
 .ite (.v 0) (
 .op (.bin .eql) [.v 13, .k (.int .i64 0)] [tB]<|
 .go 2 [.v 20, .v 19, .v 18, .v 17, .v 16, .k (.int .i64 3), .v 0, .v 10, .v 9, .v 8]) (
 .go 2 [.v 19, .v 18, .v 17, .v 16, .v 15, .k (.int .i64 0), .k (.bool false), .v 9, .v 8, .v 7])))))))
def t133_3:T:=
.op (.not) [.v 3] [tB]<|
.ite (.v 0) (
 .ret [[.k (.bool false)]]) (
 .op (.bin .lss) [.v 6, .v 5] [tB]<|
 .ite (.v 0) (
 .ret [[.k (.bool false)]]) (
 .op (.bin .sub) [.k (.int .i64 1), .v 6] [tI]<|
 .op (.bin .add) [.v 8, .v 0] [tI]<|
 .op (.bin .add) [.v 4, .k (.int .i64 1)] [tI]<|
 .go 0 [.v 14, .v 13, .v 12, .v 11, .v 1, .v 7, .v 6, .v 0]))
def lb133:List (Key×List (Nat×List Ty)):=[(.head 0,[(0,[tL 5]),(1,[tI]),(2,[tI]),(3,[tI]),(9,[tI]),(14,[tL 5]),(15,[tI]),(16,[tI])]),(.jn 28,[(0,[tL 5]),(1,[tI]),(2,[tI]),(3,[tI]),(9,[tI]),(11,[tI,tI,tI,tI,tS]),(14,[tL 5]),(15,[tI]),(16,[tI])]),(.after 2,[(0,[tL 5]),(1,[tI]),(2,[tI]),(3,[tI]),(9,[tI]),(12,[tI]),(13,[tB]),(14,[tL 5]),(15,[tI]),(16,[tI])])]
theorem m133:mt 133 Tryz.f133 [] [] [] lb133=some (t133_0,[t133_1,t133_2,t133_3]):=by kernel_rfl
def t136_0:T:=
.op (.app 3 true) [.k (.sl 3 []), .v 0] [tL 3]<|
.ret [[.v 0]]
def lb136:List (Key×List (Nat×List Ty)):=[]
theorem m136:mt 136 Tryz.f136 [] [] [] lb136=some (t136_0,[]):=by kernel_rfl
def t147_0:T:=
.op (.lit 3 []) [] [tL 3]<|
.go 0 [.v 5, .v 4, .v 3, .v 2, .v 1, .k (.int .i64 0), .k (.int .i64 0), .k (.str []), .v 0, .k (.int .i64 0)]
def t147_1:T:=
.op (.len) [.v 9] [tI]<|
.op (.bin .lss) [.v 1, .v 0] [tB]<|
.ite (.v 0) (
 .op (.len) [.v 3] [tI]<|
 .op (.row 5) [.v 12, .v 3] [tI,tI,tI,tI,tS]<|
 .call 124 [[.v 4, .v 3, .v 2, .v 1, .v 0]] [[tI]]<|
 .op (.bin .sub) [.v 6, .v 0] [tI]<|
 .op (.row 5) [.v 19, .v 10] [tI,tI,tI,tI,tS]<|
 .op (.bin .eql) [.v 4, .k (.int .i64 5)] [tB]<|
 .ite (.v 0) (
 .op (.row 5) [.v 25, .v 16] [tI,tI,tI,tI,tS]<|
 .op (.idx 3) [.v 22, .v 11] [tI]<|
 .op (.at [0]) [.v 23, .v 0] [tI]<|
 .op (.at [1]) [.v 24, .v 1] [tI]<|
 .op (.at [2]) [.v 25, .v 2] [tS]<|
 .op (.bin .add) [.v 15, .k (.int .i64 1)] [tI]<|
 .op (.idx 3) [.v 27, .v 0] [tI]<|
 .op (.at [0]) [.v 28, .v 0] [tI]<|
 .op (.at [1]) [.v 29, .v 1] [tI]<|
 .op (.at [2]) [.v 30, .v 2] [tS]<|
 .call 157 [[.v 12],[.v 7, .v 6, .v 5],[.v 2, .v 1, .v 0]] [[tI,tI,tS]]<|
 .go 1 [.v 42, .v 41, .v 40, .v 39, .v 38, .v 37, .v 36, .v 35, .v 34, .v 33, .v 23, .v 2, .v 1, .v 0]) (
 .op (.bin .eql) [.v 5, .k (.int .i64 6)] [tB]<|
 .ite (.v 0) (
 .op (.bin .add) [.v 7, .k (.int .i64 2)] [tI]<|
 .op (.idx 3) [.v 19, .v 0] [tI]<|
 .op (.at [0]) [.v 20, .v 0] [tI]<|
 .op (.at [1]) [.v 21, .v 1] [tI]<|
 .op (.at [2]) [.v 22, .v 2] [tS]<|
 .op (.idx 3) [.v 23, .v 12] [tI]<|
 .op (.at [0]) [.v 24, .v 0] [tI]<|
 .op (.at [1]) [.v 25, .v 1] [tI]<|
 .op (.at [2]) [.v 26, .v 2] [tS]<|
 .call 149 [[.v 2, .v 1, .v 0]] [[tB]]<|
 .ite (.v 0) (
 .op (.bin .add) [.v 17, .k (.int .i64 1)] [tI]<|
 .op (.idx 3) [.v 29, .v 0] [tI]<|
 .op (.at [0]) [.v 30, .v 0] [tI]<|
 .op (.at [1]) [.v 31, .v 1] [tI]<|
 .op (.at [2]) [.v 32, .v 2] [tS]<|
 .go 1 [.v 41, .v 40, .v 39, .v 38, .v 37, .v 36, .v 35, .v 34, .v 33, .v 32, .v 22, .v 2, .v 1, .v 0]) (
 .go 1 [.v 36, .v 35, .v 34, .v 33, .v 32, .v 31, .v 30, .v 29, .v 28, .v 27, .v 17, .v 7, .v 6, .v 5])) (
 .op (.row 5) [.v 26, .v 17] [tI,tI,tI,tI,tS]<|
 .call 158 [[.v 4, .v 3, .v 2, .v 1, .v 0],[.v 30, .v 29, .v 28, .v 27]] [[tI,tI,tS]]<|
 .go 1 [.v 34, .v 33, .v 32, .v 31, .v 30, .v 29, .v 28, .v 27, .v 26, .v 25, .v 15, .v 2, .v 1, .v 0]))) (
 .op (.idx 3) [.v 3, .k (.int .i64 0)] [tI]<|
 .op (.at [0]) [.v 4, .v 0] [tI]<|
 .op (.at [1]) [.v 5, .v 1] [tI]<|
 .op (.at [2]) [.v 6, .v 2] [tS]<|
 .ret [[.v 2, .v 1, .v 0]])
def t147_2:T:=
.op (.sub 3 false true) [.v 5, .v 3] [tL 3]<|
.op (.lit 3 [3]) [.v 3, .v 2, .v 1] [tL 3]<|
.op (.app 3 true) [.v 1, .v 0] [tL 3]<|
.op (.bin .add) [.v 7, .k (.int .i64 1)] [tI]<|
.go 0 [.v 17, .v 16, .v 15, .v 14, .v 13, .v 12, .v 11, .v 10, .v 1, .v 0]
def lb147:List (Key×List (Nat×List Ty)):=[(.head 0,[(0,[tL 5]),(3,[tL 3,tL 3,tL 1,tL 3]),(4,[tI,tI,tS]),(5,[tL 3]),(6,[tI])]),(.after 2,[(0,[tL 5]),(3,[tL 3,tL 3,tL 1,tL 3]),(4,[tI,tI,tS]),(5,[tL 3]),(6,[tI]),(7,[tI]),(8,[tI,tI,tS])])]
theorem m147:mt 147 Tryz.f147 [] [] [(5,0,[0],tI),(5,0,[1],tI),(5,0,[2],tS)] lb147=some (t147_0,[t147_1,t147_2]):=by kernel_rfl
def t149_0:T:=
.op (.bin .neq) [.v 1, .k (.int .i64 0)] [tB]<|
.ite (.v 0) (
 .ret [[.k (.bool true)]]) (
 .op (.bin .neq) [.v 1, .k (.str [])] [tB]<|
 .ret [[.v 0]])
def lb149:List (Key×List (Nat×List Ty)):=[]
theorem m149:mt 149 Tryz.f149 [] [] [] lb149=some (t149_0,[]):=by kernel_rfl
end Go.Own
