/- A part of the proof that the last text of this folder tells of. -/
import Derived.Test.YthdgipjkbmmaoaaGreatDoorTae
import Derived.Test.YthdgipjkbmmaoaaGreatDoorTai
set_option maxRecDepth 100000
namespace Go.Own
open Go Go.Proofs
def t29_0:T:=
.op (.len) [.v 1] [tI]<|
.op (.len) [.v 1] [tI]<|
.op (.bin .neq) [.v 1, .v 0] [tB]<|
.ite (.v 0) (
 .ret [[.k (.bool false)]]) (
 .go 0 [.v 4, .v 3, .k (.int .i64 0)])
def t29_1:T:=
.op (.len) [.v 2] [tI]<|
.op (.bin .lss) [.v 1, .v 0] [tB]<|
.ite (.v 0) (
 .op (.row 4) [.v 4, .v 2] [tI,tI,tI,tS]<|
 .op (.row 4) [.v 7, .v 6] [tI,tI,tI,tS]<|
 .call 73 [[.v 7, .v 6, .v 5, .v 4],[.v 3, .v 2, .v 1, .v 0]] [[tB]]<|
 .op (.not) [.v 0] [tB]<|
 .ite (.v 0) (
 .ret [[.k (.bool false)]]) (
 .op (.bin .add) [.v 12, .k (.int .i64 1)] [tI]<|
 .go 0 [.v 15, .v 14, .v 0])) (
 .ret [[.k (.bool true)]])
def lb29:List (Key×List (Nat×List Ty)):=[(.head 0,[(0,[tL 4]),(1,[tL 4]),(5,[tI])])]
theorem m29:mt 29 Tryz.f29 [] [] [] lb29=some (t29_0,[t29_1]):=by kernel_rfl
def t34_0:T:=
.go 0 [.v 1, .v 0, .k (.int .i64 0)]
def t34_1:T:=
.op (.len) [.v 2] [tI]<|
.op (.bin .lss) [.v 1, .v 0] [tB]<|
.ite (.v 0) (
 .op (.idx 1) [.v 4, .v 2] [tI]<|
 .op (.at [0]) [.v 5, .v 0] [tL 2]<|
 .op (.at [0]) [.v 6, .v 1] [tL 2]<|
 .op (.hole [0]) [.v 7, .v 2] [tL 1]<|
 .call 79 [[.v 1],[.v 7]] [[tI],[tL 2]]<|
 .op (.setAt [0]) [.v 2, .v 0, .v 5] [tL 1]<|
 .op (.bin .add) [.v 9, .k (.int .i64 1)] [tI]<|
 .go 0 [.v 1, .v 3, .v 0]) (
 .ret [[.v 3],[.v 4]])
def lb34:List (Key×List (Nat×List Ty)):=[(.head 0,[(0,[tL 1]),(1,[tI]),(5,[tI])])]
theorem m34:mt 34 Tryz.f34 [] [] [(0,0,[0],tL 2)] lb34=some (t34_0,[t34_1]):=by kernel_rfl
def t42_0:T:=
.go 0 [.v 1, .v 0, .k (.int .i64 0)]
def t42_1:T:=
.op (.len) [.v 2] [tI]<|
.op (.bin .lss) [.v 1, .v 0] [tB]<|
.ite (.v 0) (
 .op (.idx 5) [.v 4, .v 2] [tI]<|
 .op (.putp [] 0 5 true) [.v 5, .v 0, .v 4] [tL 5]<|
 .op (.bin .add) [.v 5, .k (.int .i64 1)] [tI]<|
 .op (.idx 5) [.v 1, .v 5] [tI]<|
 .op (.putp [] 1 5 true) [.v 2, .v 0, .v 1] [tL 5]<|
 .op (.bin .add) [.v 2, .k (.int .i64 1)] [tI]<|
 .call 78 [[.v 0]] [[tS]]<|
 .op (.idx 5) [.v 2, .v 9] [tI]<|
 .op (.putp [] 2 5 true) [.v 3, .v 0, .v 1] [tL 5]<|
 .op (.bin .add) [.v 3, .k (.int .i64 1)] [tI]<|
 .op (.idx 5) [.v 1, .v 12] [tI]<|
 .op (.at [3]) [.v 2, .v 0] [tL 4]<|
 .op (.at [3]) [.v 3, .v 1] [tL 4]<|
 .op (.hole [3]) [.v 4, .v 2] [tL 5]<|
 .call 41 [[.v 1],[.v 4]] [[tI],[tL 4]]<|
 .op (.setAt [3]) [.v 2, .v 0, .v 5] [tL 5]<|
 .op (.idx 5) [.v 0, .v 19] [tI]<|
 .op (.at [4]) [.v 1, .v 0] [tL 5]<|
 .op (.at [4]) [.v 2, .v 1] [tL 5]<|
 .op (.hole [4]) [.v 3, .v 2] [tL 5]<|
 .call 42 [[.v 1],[.v 6]] [[tI],[tL 5]]<|
 .op (.setAt [4]) [.v 2, .v 0, .v 5] [tL 5]<|
 .op (.bin .add) [.v 26, .k (.int .i64 1)] [tI]<|
 .go 0 [.v 1, .v 3, .v 0]) (
 .ret [[.v 3],[.v 4]])
def lb42:List (Key×List (Nat×List Ty)):=[(.head 0,[(0,[tL 5]),(1,[tI]),(5,[tI])])]
theorem m42:mt 42 Tryz.f42 [] [] [(0,0,[3],tL 4),(0,0,[4],tL 5)] lb42=some (t42_0,[t42_1]):=by kernel_rfl
def t44_0:T:=
.go 0 [.v 1, .v 0, .k (.int .i64 0)]
def t44_1:T:=
.op (.len) [.v 2] [tI]<|
.op (.bin .lss) [.v 1, .v 0] [tB]<|
.ite (.v 0) (
 .op (.row 5) [.v 4, .v 2] [tI,tI,tS,tL 4,tL 5]<|
 .op (.bin .neq) [.v 4, .v 8] [tB]<|
 .ite (.v 0) (
 .ret [[.k (.int .i64 (-1))]]) (
 .op (.bin .add) [.v 9, .k (.int .i64 1)] [tI]<|
 .op (.row 5) [.v 11, .v 9] [tI,tI,tS,tL 4,tL 5]<|
 .op (.bin .neq) [.v 3, .v 5] [tB]<|
 .ite (.v 0) (
 .ret [[.k (.int .i64 (-1))]]) (
 .op (.bin .add) [.v 6, .k (.int .i64 1)] [tI]<|
 .op (.row 5) [.v 18, .v 16] [tI,tI,tS,tL 4,tL 5]<|
 .call 78 [[.v 5]] [[tS]]<|
 .op (.bin .neq) [.v 3, .v 0] [tB]<|
 .ite (.v 0) (
 .ret [[.k (.int .i64 (-1))]]) (
 .op (.bin .add) [.v 7, .k (.int .i64 1)] [tI]<|
 .op (.row 5) [.v 26, .v 24] [tI,tI,tS,tL 4,tL 5]<|
 .call 43 [[.v 1],[.v 5]] [[tI]]<|
 .op (.bin .lss) [.v 0, .k (.int .i64 0)] [tB]<|
 .ite (.v 0) (
 .ret [[.k (.int .i64 (-1))]]) (
 .op (.row 5) [.v 33, .v 31] [tI,tI,tS,tL 4,tL 5]<|
 .call 44 [[.v 0],[.v 6]] [[tI]]<|
 .op (.bin .lss) [.v 0, .k (.int .i64 0)] [tB]<|
 .ite (.v 0) (
 .ret [[.k (.int .i64 (-1))]]) (
 .op (.bin .add) [.v 38, .k (.int .i64 1)] [tI]<|
 .go 0 [.v 41, .v 2, .v 0])))))) (
 .ret [[.v 3]])
def lb44:List (Key×List (Nat×List Ty)):=[(.head 0,[(0,[tL 5]),(1,[tI]),(5,[tI])])]
theorem m44:mt 44 Tryz.f44 [] [] [] lb44=some (t44_0,[t44_1]):=by kernel_rfl
def t60_0:T:=
.op (.len) [.v 0] [tI]<|
.op (.mk [.sl 2 []]) [.v 0] [tL 1]<|
.go 0 [.v 2, .v 0, .k (.int .i64 0)]
def t60_1:T:=
.op (.len) [.v 2] [tI]<|
.op (.bin .lss) [.v 1, .v 0] [tB]<|
.ite (.v 0) (
 .op (.row 1) [.v 4, .v 2] [tL 2]<|
 .call 99 [[.v 0]] [[tL 2]]<|
 .op (.idx 1) [.v 5, .v 4] [tI]<|
 .op (.putp [] 0 1 false) [.v 6, .v 0, .v 1] [tL 1]<|
 .op (.bin .add) [.v 6, .k (.int .i64 1)] [tI]<|
 .go 0 [.v 9, .v 1, .v 0]) (
 .ret [[.v 3]])
def lb60:List (Key×List (Nat×List Ty)):=[(.head 0,[(0,[tL 1]),(3,[tL 1]),(4,[tI])])]
theorem m60:mt 60 Tryz.f60 [] [] [] lb60=some (t60_0,[t60_1]):=by kernel_rfl
def t63_0:T:=
.op (.bin .geq) [.v 2, .v 1] [tB]<|
.ite (.v 0) (
 .op (.bin .leq) [.v 3, .v 1] [tB]<|
 .ret [[.v 0]]) (
 .ret [[.k (.bool false)]])
def lb63:List (Key×List (Nat×List Ty)):=[]
theorem m63:mt 63 Tryz.f63 [] [] [] lb63=some (t63_0,[]):=by kernel_rfl
def t71_0:T:=
.op (.len) [.v 0] [tI]<|
.go 0 [.v 3, .v 2, .k (.sl 5 []), .v 1, .v 0, .k (.int .i64 0)]
def t71_1:T:=
.op (.bin .lss) [.v 0, .v 1] [tB]<|
.ite (.v 0) (
 .op (.row 5) [.v 3, .v 1] [tI,tI,tS,tL 4,tL 5]<|
 .op (.bin .eql) [.v 4, .k (.int .i64 (-2))] [tB]<|
 .ite (.v 0) (
 .op (.row 8) [.v 12, .v 11] [tL 2,tI,tL 3,tL 3,tL 3,tL 5,tL 4,tL 2]<|
 .op (.bin .add) [.v 19, .k (.int .i64 1)] [tI]<|
 .call 71 [[.v 21, .v 0],[.v 3]] [[tL 5],[tL 8,tI]]<|
 .op (.bin .neq) [.v 16, .k (.int .i64 (-1))] [tB]<|
 .ite (.v 0) (
 .op (.len) [.v 3] [tI]<|
 .op (.bin .gtr) [.v 0, .k (.int .i64 0)] [tB]<|
 .ite (.v 0) (
 .op (.idx 5) [.v 5, .k (.int .i64 0)] [tI]<|
 .op (.at [0]) [.v 6, .v 0] [tI]<|
 .op (.bin .neq) [.v 0, .k (.int .i64 (-1))] [tB]<|
 .ite (.v 0) (
 .op (.idx 5) [.v 8, .k (.int .i64 0)] [tI]<|
 .op (.putp [] 1 5 true) [.v 9, .v 0, .v 23] [tL 5]<|
 .op (.app 5 false) [.v 30, .v 0] [tL 5]<|
 .op (.bin .add) [.v 28, .k (.int .i64 1)] [tI]<|
 .go 0 [.v 11, .v 10, .v 1, .v 31, .v 30, .v 0]) (
 .op (.app 5 false) [.v 28, .v 8] [tL 5]<|
 .op (.bin .add) [.v 26, .k (.int .i64 1)] [tI]<|
 .go 0 [.v 9, .v 8, .v 1, .v 29, .v 28, .v 0])) (
 .op (.app 5 false) [.v 25, .v 5] [tL 5]<|
 .op (.bin .add) [.v 23, .k (.int .i64 1)] [tI]<|
 .go 0 [.v 6, .v 5, .v 1, .v 26, .v 25, .v 0])) (
 .op (.app 5 false) [.v 23, .v 3] [tL 5]<|
 .op (.bin .add) [.v 21, .k (.int .i64 1)] [tI]<|
 .go 0 [.v 4, .v 3, .v 1, .v 24, .v 23, .v 0])) (
 .op (.app 4 true) [.k (.sl 4 []), .v 2] [tL 4]<|
 .call 71 [[.v 13, .v 12],[.v 2]] [[tL 5],[tL 8,tI]]<|
 .op (.lit 5 [5]) [.v 9, .v 8, .v 7, .v 3, .v 2] [tL 5]<|
 .op (.app 5 false) [.v 15, .v 0] [tL 5]<|
 .op (.bin .add) [.v 13, .k (.int .i64 1)] [tI]<|
 .go 0 [.v 4, .v 3, .v 1, .v 16, .v 15, .v 0])) (
 .ret [[.v 4],[.v 6, .v 5]])
def lb71:List (Key×List (Nat×List Ty)):=[(.head 0,[(0,[tL 8,tI]),(5,[tL 5]),(10,[tL 5]),(11,[tI]),(12,[tI])])]
theorem m71:mt 71 Tryz.f71 [] (List.range 40) [(9,0,[0],tI)] lb71=some (t71_0,[t71_1]):=by kernel_rfl
def t76_0:T:=
.op (.bin .neq) [.v 13, .v 6] [tB]<|
.ite (.v 0) (
 .ret [[.k (.bool false)]]) (
 .op (.bin .neq) [.v 13, .v 6] [tB]<|
 .ite (.v 0) (
 .ret [[.k (.bool false)]]) (
 .call 114 [[.v 13],[.v 6]] [[tB]]<|
 .op (.not) [.v 0] [tB]<|
 .ite (.v 0) (
 .ret [[.k (.bool false)]]) (
 .call 115 [[.v 14],[.v 7]] [[tB]]<|
 .op (.not) [.v 0] [tB]<|
 .ite (.v 0) (
 .ret [[.k (.bool false)]]) (
 .call 116 [[.v 15],[.v 8]] [[tB]]<|
 .op (.not) [.v 0] [tB]<|
 .ite (.v 0) (
 .ret [[.k (.bool false)]]) (
 .call 117 [[.v 16],[.v 9]] [[tB]]<|
 .op (.not) [.v 0] [tB]<|
 .ite (.v 0) (
 .ret [[.k (.bool false)]]) (
 .call 118 [[.v 17],[.v 10]] [[tB]]<|
 .op (.not) [.v 0] [tB]<|
 .ite (.v 0) (
 .ret [[.k (.bool false)]]) (
 .ret [[.k (.bool true)]])))))))
def lb76:List (Key×List (Nat×List Ty)):=[]
theorem m76:mt 76 Tryz.f76 [] [] [] lb76=some (t76_0,[]):=by kernel_rfl
def t77_0:T:=
.op (.len) [.v 1] [tI]<|
.op (.len) [.v 1] [tI]<|
.op (.bin .neq) [.v 1, .v 0] [tB]<|
.ite (.v 0) (
 .ret [[.k (.bool false)]]) (
 .go 0 [.v 4, .v 3, .k (.int .i64 0)])
def t77_1:T:=
.op (.len) [.v 2] [tI]<|
.op (.bin .lss) [.v 1, .v 0] [tB]<|
.ite (.v 0) (
 .op (.row 2) [.v 4, .v 2] [tI,tI]<|
 .op (.row 2) [.v 5, .v 4] [tI,tI]<|
 .call 119 [[.v 3, .v 2],[.v 1, .v 0]] [[tB]]<|
 .op (.not) [.v 0] [tB]<|
 .ite (.v 0) (
 .ret [[.k (.bool false)]]) (
 .op (.bin .add) [.v 8, .k (.int .i64 1)] [tI]<|
 .go 0 [.v 11, .v 10, .v 0])) (
 .ret [[.k (.bool true)]])
def lb77:List (Key×List (Nat×List Ty)):=[(.head 0,[(0,[tL 2]),(1,[tL 2]),(5,[tI])])]
theorem m77:mt 77 Tryz.f77 [] [] [] lb77=some (t77_0,[t77_1]):=by kernel_rfl
def t89_0:T:=
.op (.bin .eql) [.v 0, .k (.int .i64 0)] [tB]<|
.ite (.v 0) (
 .ret [[.k (.int .i64 0), .k (.int .i64 0)]]) (
 .op (.bin .eql) [.v 1, .k (.int .i64 4)] [tB]<|
 .ite (.v 0) (
 .ret [[.k (.int .i64 0), .k (.int .i64 0)]]) (
 .op (.bin .eql) [.v 2, .k (.int .i64 2)] [tB]<|
 .ite (.v 0) (
 .ret [[.k (.int .i64 1), .k (.int .i64 2)]]) (
 .op (.bin .eql) [.v 3, .k (.int .i64 3)] [tB]<|
 .ite (.v 0) (
 .ret [[.k (.int .i64 1), .k (.int .i64 1)]]) (
 .ret [[.k (.int .i64 0), .k (.int .i64 4)]]))))
def lb89:List (Key×List (Nat×List Ty)):=[]
theorem m89:mt 89 Tryz.f89 [] [] [] lb89=some (t89_0,[]):=by kernel_rfl
def t98_0:T:=
.ret [[.v 2, .v 1, .v 0]]
def lb98:List (Key×List (Nat×List Ty)):=[]
theorem m98:mt 98 Tryz.f98 [] [] [] lb98=some (t98_0,[]):=by kernel_rfl
def t107_0:T:=
.op (.len) [.v 1] [tI]<|
.go 0 [.v 1, .v 12, .v 11, .v 10, .v 9, .v 8, .v 7, .v 6, .v 5, .v 4, .v 3, .v 2, .v 0, .k (.int .i64 0)]
def t107_1:T:=
.op (.bin .lss) [.v 0, .v 1] [tB]<|
.ite (.v 0) (
 .op (.row 1) [.v 3, .v 1] [tL 5]<|
 .op (.len) [.v 13] [tI]<|
 .call 106 [[.v 1],[.v 15],[.v 0],[.v 16]] [[tB]]<|
 .op (.not) [.v 0] [tB]<|
 .ite (.v 0) (
 .ret [[.k (.bool false)]]) (
 .op (.bin .add) [.v 5, .k (.int .i64 1)] [tI]<|
 .go 0 [.v 19, .v 18, .v 17, .v 16, .v 15, .v 14, .v 13, .v 12, .v 11, .v 10, .v 9, .v 8, .v 7, .v 0])) (
 .ret [[.k (.bool true)]])
def lb107:List (Key×List (Nat×List Ty)):=[(.head 0,[(2,[tI]),(3,[tI,tL 3,tL 1,tI,tI,tL 1,tL 1,tL 5,tL 2,tL 7]),(9,[tL 1]),(10,[tI]),(11,[tI])])]
theorem m107:mt 107 Tryz.f107 [] [] [] lb107=some (t107_0,[t107_1]):=by kernel_rfl
def t116_0:T:=
.op (.len) [.v 1] [tI]<|
.op (.len) [.v 1] [tI]<|
.op (.bin .neq) [.v 1, .v 0] [tB]<|
.ite (.v 0) (
 .ret [[.k (.bool false)]]) (
 .go 0 [.v 4, .v 3, .k (.int .i64 0)])
def t116_1:T:=
.op (.len) [.v 2] [tI]<|
.op (.bin .lss) [.v 1, .v 0] [tB]<|
.ite (.v 0) (
 .op (.row 5) [.v 4, .v 2] [tI,tI,tI,tI,tS]<|
 .op (.row 5) [.v 8, .v 7] [tI,tI,tI,tI,tS]<|
 .call 143 [[.v 9, .v 8, .v 7, .v 6, .v 5],[.v 4, .v 3, .v 2, .v 1, .v 0]] [[tB]]<|
 .op (.not) [.v 0] [tB]<|
 .ite (.v 0) (
 .ret [[.k (.bool false)]]) (
 .op (.bin .add) [.v 14, .k (.int .i64 1)] [tI]<|
 .go 0 [.v 17, .v 16, .v 0])) (
 .ret [[.k (.bool true)]])
def lb116:List (Key×List (Nat×List Ty)):=[(.head 0,[(0,[tL 5]),(1,[tL 5]),(5,[tI])])]
theorem m116:mt 116 Tryz.f116 [] [] [] lb116=some (t116_0,[t116_1]):=by kernel_rfl
def t122_0:T:=
.op (.slen) [.v 0] [tI]<|
.op (.bin .gtr) [.v 0, .k (.int .i64 12)] [tB]<|
.ite (.v 0) (
 .ret [[.k (.bool false)]]) (
 .go 0 [.v 2, .k (.int .i64 0)])
def t122_1:T:=
.op (.slen) [.v 1] [tI]<|
.op (.bin .lss) [.v 1, .v 0] [tB]<|
.ite (.v 0) (
 .op (.sidx) [.v 3, .v 2] [(.i .u8)]<|
 .call 145 [[.v 0]] [[tB]]<|
 .op (.not) [.v 0] [tB]<|
 .ite (.v 0) (
 .ret [[.k (.bool false)]]) (
 .op (.bin .add) [.v 5, .k (.int .i64 1)] [tI]<|
 .go 0 [.v 7, .v 0])) (
 .ret [[.k (.bool true)]])
def lb122:List (Key×List (Nat×List Ty)):=[(.head 0,[(0,[tS]),(3,[tI])])]
theorem m122:mt 122 Tryz.f122 [] [] [] lb122=some (t122_0,[t122_1]):=by kernel_rfl
def t124_0:T:=
.op (.bin .eql) [.v 4, .k (.int .i64 5)] [tB]<|
.ite (.v 0) (
 .ret [[.k (.int .i64 2)]]) (
 .op (.bin .eql) [.v 5, .k (.int .i64 6)] [tB]<|
 .ite (.v 0) (
 .ret [[.k (.int .i64 3)]]) (
 .ret [[.k (.int .i64 0)]]))
def lb124:List (Key×List (Nat×List Ty)):=[]
theorem m124:mt 124 Tryz.f124 [] [] [] lb124=some (t124_0,[]):=by kernel_rfl
def t134_0:T:=
.go 0 [.v 0, .k (.int .i64 0)]
def t134_1:T:=
.op (.slen) [.v 1] [tI]<|
.op (.bin .lss) [.v 1, .v 0] [tB]<|
.ite (.v 0) (
 .op (.sidx) [.v 3, .v 2] [(.i .u8)]<|
 .op (.bin .geq) [.v 0, .k (.int .u8 97)] [tB]<|
 .ite (.v 0) (
 .op (.bin .leq) [.v 1, .k (.int .u8 122)] [tB]<|
 .ite (.v 0) (
 .op (.not) [.k (.bool true)] [tB]<|
 .go 1 [.v 7, .v 6, .v 0]) (
 .op (.bin .geq) [.v 2, .k (.int .u8 48)] [tB]<|
 .ite (.v 0) (
 .op (.bin .leq) [.v 3, .k (.int .u8 57)] [tB]<|
 .ite (.v 0) (
 .op (.not) [.k (.bool true)] [tB]<|
 .go 1 [.v 9, .v 8, .v 0]) (
 .op (.bin .eql) [.v 4, .k (.int .u8 32)] [tB]<|
 .op (.not) [.v 0] [tB]<|
 .go 1 [.v 10, .v 9, .v 0])) (
 .op (.bin .eql) [.v 3, .k (.int .u8 32)] [tB]<|
 .op (.not) [.v 0] [tB]<|
 .go 1 [.v 9, .v 8, .v 0]))) (
 .op (.bin .geq) [.v 1, .k (.int .u8 48)] [tB]<|
 .ite (.v 0) (
 .op (.bin .leq) [.v 2, .k (.int .u8 57)] [tB]<|
 .ite (.v 0) (
 .op (.not) [.k (.bool true)] [tB]<|
 .go 1 [.v 8, .v 7, .v 0]) (
 .op (.bin .eql) [.v 3, .k (.int .u8 32)] [tB]<|
 .op (.not) [.v 0] [tB]<|
 .go 1 [.v 9, .v 8, .v 0])) (
 .op (.bin .eql) [.v 2, .k (.int .u8 32)] [tB]<|
 .op (.not) [.v 0] [tB]<|
 .go 1 [.v 8, .v 7, .v 0]))) (
 .op (.slen) [.v 3] [tI]<|
 .op (.bin .leq) [.v 0, .k (.int .i64 12)] [tB]<|
 .ret [[.v 0]])
def t134_2:T:=
.ite (.v 0) (
 .ret [[.k (.bool false)]]) (
 .op (.bin .add) [.v 1, .k (.int .i64 1)] [tI]<|
 .go 0 [.v 3, .v 0])
def lb134:List (Key×List (Nat×List Ty)):=[(.head 0,[(0,[tS]),(3,[tI])]),(.atc 32,[(0,[tS]),(3,[tI]),(32,[tB])])]
theorem m134:mt 134 Tryz.f134 [] [] [] lb134=some (t134_0,[t134_1,t134_2]):=by kernel_rfl
def t139_0:T:=
.op (.len) [.v 5] [tI]<|
.go 0 [.v 28, .v 27, .v 26, .v 25, .v 24, .v 23, .v 22, .v 21, .v 20, .v 19, .v 18, .v 17, .v 16, .v 15, .v 14, .v 13, .v 5, .v 4, .v 3, .v 2, .v 1, .k (.sl 5 []), .v 6, .v 0, .k (.int .i64 0)]
def t139_1:T:=
.op (.bin .lss) [.v 0, .v 1] [tB]<|
.ite (.v 0) (
 .op (.row 7) [.v 3, .v 1] [tI,tI,tL 1,tL 1,tL 5,tL 2,tL 7]<|
 .call 111 [[.v 16],[.v 8],[.k (.int .i64 0)]] [[tL 2]]<|
 .call 110 [[.v 33, .v 32, .v 31, .v 30, .v 29, .v 28, .v 27, .v 26, .v 25, .v 24, .v 23, .v 22, .v 21, .v 20, .v 19, .v 18],[.v 7, .v 6, .v 5, .v 4, .v 3, .v 2, .v 1],[.v 0],[.v 16, .v 15, .v 14, .v 13]] [[tL 5],[tL 10,tL 2,tL 4,tL 2,tI,tI,tL 3,tL 1,tI,tI,tL 1,tL 1,tL 5,tL 2,tL 7,tL 2]]<|
 .op (.app 5 false) [.v 29, .v 16] [tL 5]<|
 .op (.bin .add) [.v 27, .k (.int .i64 1)] [tI]<|
 .go 0 [.v 17, .v 16, .v 15, .v 14, .v 13, .v 12, .v 11, .v 10, .v 9, .v 8, .v 7, .v 6, .v 5, .v 4, .v 3, .v 2, .v 36, .v 35, .v 34, .v 33, .v 32, .v 1, .v 30, .v 29, .v 0]) (
 .ret [[.v 4],[.v 25, .v 24, .v 23, .v 22, .v 21, .v 20, .v 19, .v 18, .v 17, .v 16, .v 15, .v 14, .v 13, .v 12, .v 11, .v 10]])
def lb139:List (Key×List (Nat×List Ty)):=[(.head 0,[(0,[tL 10,tL 2,tL 4,tL 2,tI,tI,tL 3,tL 1,tI,tI,tL 1,tL 1,tL 5,tL 2,tL 7,tL 2]),(2,[tL 2]),(7,[tL 3,tL 3,tL 1,tL 3]),(9,[tL 5]),(13,[tL 7]),(14,[tI]),(15,[tI])])]
theorem m139:mt 139 Tryz.f139 [] [] [] lb139=some (t139_0,[t139_1]):=by kernel_rfl
def t141_0:T:=
.op (.app 2 true) [.k (.sl 2 []), .v 0] [tL 2]<|
.ret [[.v 0]]
def lb141:List (Key×List (Nat×List Ty)):=[]
theorem m141:mt 141 Tryz.f141 [] [] [] lb141=some (t141_0,[]):=by kernel_rfl
def t150_0:T:=
.op (.lit 5 []) [] [tL 5]<|
.op (.lit 1 []) [] [tL 1]<|
.go 0 [.v 16, .v 15, .v 14, .v 2, .v 13, .v 12, .v 11, .v 10, .v 9, .v 8, .v 7, .v 6, .v 5, .v 4, .v 3, .v 1, .v 0, .k (.int .i64 0)]
def t150_1:T:=
.op (.row 1) [.v 10, .k (.int .i64 0)] [tL 5]<|
.call 147 [[.v 0],[.v 7, .v 6, .v 5, .v 4]] [[tI,tI,tS]]<|
.call 159 [[.v 2, .v 1, .v 0]] [[tI]]<|
.op (.bin .lss) [.v 5, .v 0] [tB]<|
.ite (.v 0) (
 .op (.lit 1 []) [] [tL 1]<|
 .op (.app 1 true) [.v 0, .v 11] [tL 1]<|
 .op (.lit 1 [1]) [.v 8] [tL 1]<|
 .op (.app 1 true) [.v 1, .v 0] [tL 1]<|
 .op (.len) [.v 19] [tI]<|
 .op (.bin .gtr) [.v 0, .k (.int .i64 0)] [tB]<|
 .ite (.v 0) (
 .call 147 [[.v 21],[.v 18, .v 17, .v 2, .v 15]] [[tI,tI,tS]]<|
 .call 160 [[.v 2, .v 1, .v 0]] [[tI]]<|
 .op (.bin .neq) [.v 0, .k (.int .i64 (-1))] [tB]<|
 .ite (.v 0) (
 .call 161 [[.v 18],[.v 1]] [[tB]]<|
 .ite (.v 0) (
 .op (.bin .add) [.v 18, .k (.int .i64 1)] [tI]<|
 .go 0 [.v 36, .v 35, .v 34, .v 33, .v 32, .v 31, .v 30, .v 29, .v 28, .v 27, .v 26, .v 25, .v 24, .v 23, .v 22, .v 21, .v 20, .v 0]) (
 .op (.lit 1 [1]) [.v 2] [tL 1]<|
 .op (.app 1 true) [.v 20, .v 0] [tL 1]<|
 .op (.bin .add) [.k (.int .i64 4), .v 4] [tI]<|
 .go 1 [.v 38, .v 37, .v 36, .v 35, .v 34, .v 33, .v 32, .v 31, .v 30, .v 29, .v 28, .v 27, .v 26, .v 25, .v 24, .v 23, .v 1, .v 21, .v 27, .v 26, .v 11, .v 24, .v 5, .v 0])) (
 .go 1 [.v 34, .v 33, .v 32, .v 31, .v 30, .v 29, .v 28, .v 27, .v 26, .v 25, .v 24, .v 23, .v 22, .v 21, .v 20, .v 19, .v 18, .v 17, .v 23, .v 22, .v 7, .v 20, .v 1, .v 17])) (
 .op (.bin .neq) [.k (.int .i64 (-1)), .k (.int .i64 (-1))] [tB]<|
 .ite (.v 0) (
 .call 161 [[.v 14],[.k (.int .i64 (-1))]] [[tB]]<|
 .ite (.v 0) (
 .op (.bin .add) [.v 14, .k (.int .i64 1)] [tI]<|
 .go 0 [.v 32, .v 31, .v 30, .v 29, .v 28, .v 27, .v 26, .v 25, .v 24, .v 23, .v 22, .v 21, .v 20, .v 19, .v 18, .v 17, .v 16, .v 0]) (
 .op (.lit 1 [1]) [.k (.int .i64 (-1))] [tL 1]<|
 .op (.app 1 true) [.v 16, .v 0] [tL 1]<|
 .op (.bin .add) [.k (.int .i64 4), .k (.int .i64 (-1))] [tI]<|
 .go 1 [.v 34, .v 33, .v 32, .v 31, .v 30, .v 29, .v 28, .v 27, .v 26, .v 25, .v 24, .v 23, .v 22, .v 21, .v 20, .v 19, .v 1, .v 17, .v 23, .v 22, .v 7, .v 20, .k (.int .i64 (-1)), .v 0])) (
 .go 1 [.v 30, .v 29, .v 28, .v 27, .v 26, .v 25, .v 24, .v 23, .v 22, .v 21, .v 20, .v 19, .v 18, .v 17, .v 16, .v 15, .v 14, .v 13, .v 19, .v 18, .v 3, .v 16, .k (.int .i64 (-1)), .v 13]))) (
 .ret [[.v 8],[.v 23, .v 22, .v 21]])
def t150_2:T:=
.op (.row 7) [.v 13, .k (.int .i64 0)] [tI,tI,tL 1,tL 1,tL 5,tL 2,tL 7]<|
.call 128 [[.v 27],[.k (.int .i64 0)],[.v 7]] [[tL 2]]<|
.call 127 [[.v 31, .v 30, .v 29],[.v 7, .v 6, .v 5, .v 4, .v 3, .v 2, .v 1],[.v 13, .v 12, .v 11, .v 10],[.v 0]] [[tL 5],[tL 4,tL 2,tI]]<|
.op (.len) [.v 3] [tI]<|
.op (.bin .gtr) [.v 0, .k (.int .i64 0)] [tB]<|
.ite (.v 0) (
 .op (.idx 5) [.v 5, .k (.int .i64 0)] [tI]<|
 .op (.at [0]) [.v 6, .v 0] [tI]<|
 .op (.bin .neq) [.v 0, .k (.int .i64 (-1))] [tB]<|
 .ite (.v 0) (
 .op (.bin .neq) [.v 18, .k (.int .i64 (-1))] [tB]<|
 .ite (.v 0) (
 .op (.idx 5) [.v 9, .k (.int .i64 0)] [tI]<|
 .op (.putp [] 1 5 true) [.v 10, .v 0, .v 20] [tL 5]<|
 .op (.app 5 false) [.v 28, .v 0] [tL 5]<|
 .op (.bin .add) [.v 27, .k (.int .i64 1)] [tI]<|
 .go 0 [.v 12, .v 11, .v 10, .v 42, .v 41, .v 40, .v 39, .v 38, .v 37, .v 36, .v 35, .v 34, .v 33, .v 32, .v 31, .v 1, .v 29, .v 0]) (
 .op (.app 5 false) [.v 26, .v 9] [tL 5]<|
 .op (.bin .add) [.v 25, .k (.int .i64 1)] [tI]<|
 .go 0 [.v 10, .v 9, .v 8, .v 40, .v 39, .v 38, .v 37, .v 36, .v 35, .v 34, .v 33, .v 32, .v 31, .v 30, .v 29, .v 1, .v 27, .v 0])) (
 .op (.app 5 false) [.v 25, .v 8] [tL 5]<|
 .op (.bin .add) [.v 24, .k (.int .i64 1)] [tI]<|
 .go 0 [.v 9, .v 8, .v 7, .v 39, .v 38, .v 37, .v 36, .v 35, .v 34, .v 33, .v 32, .v 31, .v 30, .v 29, .v 28, .v 1, .v 26, .v 0])) (
 .op (.app 5 false) [.v 22, .v 5] [tL 5]<|
 .op (.bin .add) [.v 21, .k (.int .i64 1)] [tI]<|
 .go 0 [.v 6, .v 5, .v 4, .v 36, .v 35, .v 34, .v 33, .v 32, .v 31, .v 30, .v 29, .v 28, .v 27, .v 26, .v 25, .v 1, .v 23, .v 0])
def lb150:List (Key×List (Nat×List Ty)):=[(.head 0,[(0,[tL 4,tL 2,tI]),(3,[tL 2]),(5,[tI,tI,tL 1,tL 1,tL 5,tL 2,tL 7]),(6,[tL 3,tL 3,tL 1,tL 3]),(9,[tL 5]),(10,[tL 1]),(11,[tI])]),(.jn 54,[(0,[tL 4,tL 2,tI]),(3,[tL 2]),(5,[tI,tI,tL 1,tL 1,tL 5,tL 2,tL 7]),(6,[tL 3,tL 3,tL 1,tL 3]),(9,[tL 5]),(10,[tL 1]),(11,[tI]),(12,[tL 3,tL 3,tL 1,tL 3]),(13,[tI]),(14,[tI])])]
theorem m150:mt 150 Tryz.f150 [] (List.range 60) [(15,0,[0],tI)] lb150=some (t150_0,[t150_1,t150_2]):=by kernel_rfl
def t156_0:T:=
.op (.bin .lss) [.v 0, .k (.int .i64 0)] [tB]<|
.ite (.v 0) (
 .op (.ng) [.v 1] [tI]<|
 .call 156 [[.v 0]] [[tS]]<|
 .op (.bin .add) [.k (.str [45]), .v 0] [tS]<|
 .ret [[.v 0]]) (
 .op (.bin .lss) [.v 1, .k (.int .i64 10)] [tB]<|
 .ite (.v 0) (
 .op (.bin .add) [.v 2, .k (.int .i64 1)] [tI]<|
 .op (.ssl true true) [.k (.str [48,49,50,51,52,53,54,55,56,57]), .v 3, .v 0] [tS]<|
 .ret [[.v 0]]) (
 .op (.bin .quo) [.v 2, .k (.int .i64 10)] [tI]<|
 .call 156 [[.v 0]] [[tS]]<|
 .op (.bin .rem) [.v 4, .k (.int .i64 10)] [tI]<|
 .call 156 [[.v 0]] [[tS]]<|
 .op (.bin .add) [.v 2, .v 0] [tS]<|
 .ret [[.v 0]]))
def lb156:List (Key×List (Nat×List Ty)):=[]
theorem m156:mt 156 Tryz.f156 [] [] [] lb156=some (t156_0,[]):=by kernel_rfl
end Go.Own
