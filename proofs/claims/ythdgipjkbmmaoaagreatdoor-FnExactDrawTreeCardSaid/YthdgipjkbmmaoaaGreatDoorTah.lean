/- A part of the proof that the last text of this folder tells of. -/
import Derived.Test.YthdgipjkbmmaoaaGreatDoorTae
import Derived.Test.YthdgipjkbmmaoaaGreatDoorTag
set_option maxRecDepth 100000
namespace Go.Own
open Go Go.Proofs
def t8_0:T:=
.op (.len) [.v 0] [tI]<|
.op (.mk [.sl 2 [], .sl 3 []]) [.v 0] [tL 2]<|
.go 0 [.v 2, .v 0, .k (.int .i64 0)]
def t8_1:T:=
.op (.len) [.v 2] [tI]<|
.op (.bin .lss) [.v 1, .v 0] [tB]<|
.ite (.v 0) (
 .op (.row 2) [.v 4, .v 2] [tL 2,tL 3]<|
 .call 23 [[.v 1, .v 0]] [[tL 2,tL 3]]<|
 .op (.idx 2) [.v 7, .v 6] [tI]<|
 .op (.putp [] 0 2 false) [.v 8, .v 0, .v 2, .v 1] [tL 2]<|
 .op (.bin .add) [.v 8, .k (.int .i64 1)] [tI]<|
 .go 0 [.v 11, .v 1, .v 0]) (
 .ret [[.v 3]])
def lb8:List (Key×List (Nat×List Ty)):=[(.head 0,[(0,[tL 2]),(3,[tL 2]),(4,[tI])])]
theorem m8:mt 8 Tryz.f8 [] [] [] lb8=some (t8_0,[t8_1]):=by kernel_rfl
def t12_0:T:=
.op (.len) [.v 1] [tI]<|
.op (.len) [.v 1] [tI]<|
.op (.bin .neq) [.v 1, .v 0] [tB]<|
.ite (.v 0) (
 .ret [[.k (.bool false)]]) (
 .go 0 [.v 4, .v 3, .k (.int .i64 0)])
def t12_1:T:=
.op (.len) [.v 2] [tI]<|
.op (.bin .lss) [.v 1, .v 0] [tB]<|
.ite (.v 0) (
 .op (.row 2) [.v 4, .v 2] [tL 2,tL 3]<|
 .op (.row 2) [.v 5, .v 4] [tL 2,tL 3]<|
 .call 32 [[.v 3, .v 2],[.v 1, .v 0]] [[tB]]<|
 .op (.not) [.v 0] [tB]<|
 .ite (.v 0) (
 .ret [[.k (.bool false)]]) (
 .op (.bin .add) [.v 8, .k (.int .i64 1)] [tI]<|
 .go 0 [.v 11, .v 10, .v 0])) (
 .ret [[.k (.bool true)]])
def lb12:List (Key×List (Nat×List Ty)):=[(.head 0,[(0,[tL 2]),(1,[tL 2]),(5,[tI])])]
theorem m12:mt 12 Tryz.f12 [] [] [] lb12=some (t12_0,[t12_1]):=by kernel_rfl
def t18_0:T:=
.call 48 [[.v 2],[.v 0]] [[tI]]<|
.op (.bin .lss) [.v 0, .k (.int .i64 0)] [tB]<|
.ite (.v 0) (
 .ret [[.k (.int .i64 (-1))]]) (
 .call 45 [[.v 3],[.v 1]] [[tI]]<|
 .op (.bin .lss) [.v 0, .k (.int .i64 0)] [tB]<|
 .ite (.v 0) (
 .ret [[.k (.int .i64 (-1))]]) (
 .ret [[.v 1]]))
def lb18:List (Key×List (Nat×List Ty)):=[]
theorem m18:mt 18 Tryz.f18 [] [] [] lb18=some (t18_0,[]):=by kernel_rfl
def t26_0:T:=
.op (.row 8) [.v 0, .k (.int .i64 0)] [tL 2,tI,tL 3,tL 3,tL 3,tL 5,tL 4,tL 2]<|
.call 71 [[.v 8, .k (.int .i64 1)],[.v 2]] [[tL 5],[tL 8,tI]]<|
.call 70 [[.k (.int .i64 0), .k (.int .i64 (-1)), .k (.str []), .k (.sl 4 []), .v 2]] [[tI,tI,tS,tL 4,tL 5]]<|
.ret [[.v 4, .v 3, .v 2, .v 1, .v 0]]
def lb26:List (Key×List (Nat×List Ty)):=[]
theorem m26:mt 26 Tryz.f26 [] [] [] lb26=some (t26_0,[]):=by kernel_rfl
def t41_0:T:=
.go 0 [.v 1, .v 0, .k (.int .i64 0)]
def t41_1:T:=
.op (.len) [.v 2] [tI]<|
.op (.bin .lss) [.v 1, .v 0] [tB]<|
.ite (.v 0) (
 .op (.idx 4) [.v 4, .v 2] [tI]<|
 .op (.putp [] 0 4 true) [.v 5, .v 0, .v 4] [tL 4]<|
 .op (.bin .add) [.v 5, .k (.int .i64 1)] [tI]<|
 .op (.idx 4) [.v 1, .v 5] [tI]<|
 .op (.putp [] 1 4 true) [.v 2, .v 0, .v 1] [tL 4]<|
 .op (.bin .add) [.v 2, .k (.int .i64 1)] [tI]<|
 .op (.idx 4) [.v 1, .v 8] [tI]<|
 .op (.putp [] 2 4 true) [.v 2, .v 0, .v 1] [tL 4]<|
 .op (.bin .add) [.v 2, .k (.int .i64 1)] [tI]<|
 .call 78 [[.v 0]] [[tS]]<|
 .op (.idx 4) [.v 2, .v 12] [tI]<|
 .op (.putp [] 3 4 true) [.v 3, .v 0, .v 1] [tL 4]<|
 .op (.bin .add) [.v 3, .k (.int .i64 1)] [tI]<|
 .op (.bin .add) [.v 15, .k (.int .i64 1)] [tI]<|
 .go 0 [.v 2, .v 1, .v 0]) (
 .ret [[.v 3],[.v 4]])
def lb41:List (Key×List (Nat×List Ty)):=[(.head 0,[(0,[tL 4]),(1,[tI]),(5,[tI])])]
theorem m41:mt 41 Tryz.f41 [] [] [] lb41=some (t41_0,[t41_1]):=by kernel_rfl
def t56_0:T:=
.op (.row 10) [.v 5, .v 2] [tI,tL 3,tL 1,tI,tI,tL 1,tL 1,tL 5,tL 2,tL 7]<|
.call 95 [[.v 14],[.v 13],[.v 9, .v 8, .v 7, .v 6, .v 5, .v 4, .v 3, .v 2, .v 1, .v 0]] [[tL 3]]<|
.call 94 [[.v 16],[.v 14, .v 13, .v 12, .v 11],[.v 0]] [[tL 2,tI,tL 3,tL 3,tL 3,tL 5,tL 4,tL 2]]<|
.op (.lit 8 [8]) [.v 7, .v 6, .v 5, .v 4, .v 3, .v 2, .v 1, .v 0] [tL 8]<|
.go 0 [.v 25, .v 24, .v 8, .v 7, .v 6, .v 5, .v 4, .v 3, .v 2, .v 1, .v 0, .k (.bool true), .k (.int .i64 0), .k (.sl 1 []), .k (.int .i64 0)]
def t56_1:T:=
.op (.len) [.v 6] [tI]<|
.op (.bin .lss) [.v 3, .v 0] [tB]<|
.ite (.v 0) (
 .op (.row 4) [.v 8, .v 4] [tL 2,tI,tL 3,tL 3]<|
 .call 56 [[.v 20],[.v 19],[.v 3, .v 2, .v 1, .v 0]] [[tL 5,tL 8]]<|
 .op (.lit 1 [1]) [.v 1] [tL 1]<|
 .op (.app 1 false) [.v 10, .v 0] [tL 1]<|
 .op (.app 8 false) [.v 14, .v 2] [tL 8]<|
 .op (.bin .add) [.v 13, .k (.int .i64 1)] [tI]<|
 .go 0 [.v 26, .v 25, .v 24, .v 23, .v 22, .v 21, .v 20, .v 19, .v 18, .v 17, .v 1, .v 15, .v 0, .v 2, .v 12]) (
 .call 96 [[.v 3, .v 2],[.v 9]] [[tL 5],[tL 1,tI]]<|
 .ret [[.v 2, .v 9]])
def lb56:List (Key×List (Nat×List Ty)):=[(.head 0,[(0,[tL 10]),(1,[tL 2]),(8,[tL 2,tI,tL 3,tL 3,tL 3,tL 5,tL 4,tL 2]),(9,[tL 8]),(10,[tB]),(11,[tI]),(29,[tL 1,tI])])]
theorem m56:mt 56 Tryz.f56 [2] (List.range 120) [] lb56=some (t56_0,[t56_1]):=by kernel_rfl
def t57_0:T:=
.op (.lit 2 []) [] [tL 2]<|
.op (.lit 3 []) [] [tL 3]<|
.op (.mk [.int .i64 0, .int .i64 0, .str []]) [.k (.int .i64 2)] [tL 3]<|
.ret [[.v 2, .k (.int .i64 0), .v 1, .v 0]]
def lb57:List (Key×List (Nat×List Ty)):=[]
theorem m57:mt 57 Tryz.f57 [] [] [] lb57=some (t57_0,[]):=by kernel_rfl
def t67_0:T:=
.op (.len) [.v 0] [tI]<|
.go 0 [.v 1, .v 1, .v 0, .k (.int .i64 0)]
def t67_1:T:=
.op (.bin .lss) [.v 0, .v 1] [tB]<|
.ite (.v 0) (
 .op (.row 2) [.v 3, .v 1] [tI,tI]<|
 .call 63 [[.v 1],[.k (.int .i64 0)],[.k (.int .i64 3)]] [[tB]]<|
 .op (.not) [.v 0] [tB]<|
 .ite (.v 0) (
 .ret [[.k (.bool false)]]) (
 .call 63 [[.v 2],[.k (.int .i64 0)],[.k (.int .i64 103)]] [[tB]]<|
 .op (.not) [.v 0] [tB]<|
 .ite (.v 0) (
 .ret [[.k (.bool false)]]) (
 .op (.bin .add) [.v 7, .k (.int .i64 1)] [tI]<|
 .go 0 [.v 11, .v 10, .v 9, .v 0]))) (
 .op (.len) [.v 4] [tI]<|
 .op (.bin .leq) [.v 0, .k (.int .i64 20)] [tB]<|
 .ret [[.v 0]])
def lb67:List (Key×List (Nat×List Ty)):=[(.head 0,[(0,[tL 2]),(5,[tL 2]),(6,[tI]),(7,[tI])])]
theorem m67:mt 67 Tryz.f67 [] [] [] lb67=some (t67_0,[t67_1]):=by kernel_rfl
def t72_0:T:=
.call 109 [[.v 5],[.v 4],[.v 2],[.v 3]] [[tL 3]]<|
.op (.row 10) [.v 6, .v 3] [tI,tL 3,tL 1,tI,tI,tL 1,tL 1,tL 5,tL 2,tL 7]<|
.call 111 [[.v 14],[.k (.int .i64 0)],[.k (.int .i64 0)]] [[tL 2]]<|
.call 110 [[.v 17, .v 16, .k (.sl 4 []), .k (.sl 2 []), .k (.int .i64 0), .k (.int .i64 0), .k (.sl 3 []), .k (.sl 1 []), .k (.int .i64 0), .k (.int .i64 0), .k (.sl 1 []), .k (.sl 1 []), .k (.sl 5 []), .k (.sl 2 []), .k (.sl 7 []), .k (.sl 2 [])],[.v 7, .v 6, .v 5, .v 4, .v 3, .v 2, .v 1],[.v 0],[.v 13, .v 11, .k (.sl 1 []), .v 12]] [[tL 5],[tL 10,tL 2,tL 4,tL 2,tI,tI,tL 3,tL 1,tI,tI,tL 1,tL 1,tL 5,tL 2,tL 7,tL 2]]<|
.ret [[.v 32, .v 31, .v 30, .v 29, .v 28, .v 16, .v 13, .v 12]]
def lb72:List (Key×List (Nat×List Ty)):=[]
theorem m72:mt 72 Tryz.f72 [] [] [] lb72=some (t72_0,[]):=by kernel_rfl
def t74_0:T:=
.op (.len) [.v 1] [tI]<|
.op (.len) [.v 1] [tI]<|
.op (.bin .neq) [.v 1, .v 0] [tB]<|
.ite (.v 0) (
 .ret [[.k (.bool false)]]) (
 .go 0 [.v 4, .v 3, .k (.int .i64 0)])
def t74_1:T:=
.op (.len) [.v 2] [tI]<|
.op (.bin .lss) [.v 1, .v 0] [tB]<|
.ite (.v 0) (
 .op (.row 3) [.v 4, .v 2] [tI,tI,tS]<|
 .op (.row 3) [.v 6, .v 5] [tI,tI,tS]<|
 .call 112 [[.v 5, .v 4, .v 3],[.v 2, .v 1, .v 0]] [[tB]]<|
 .op (.not) [.v 0] [tB]<|
 .ite (.v 0) (
 .ret [[.k (.bool false)]]) (
 .op (.bin .add) [.v 10, .k (.int .i64 1)] [tI]<|
 .go 0 [.v 13, .v 12, .v 0])) (
 .ret [[.k (.bool true)]])
def lb74:List (Key×List (Nat×List Ty)):=[(.head 0,[(0,[tL 3]),(1,[tL 3]),(5,[tI])])]
theorem m74:mt 74 Tryz.f74 [] [] [] lb74=some (t74_0,[t74_1]):=by kernel_rfl
def t82_0:T:=
.op (.len) [.v 1] [tI]<|
.op (.bin .sub) [.v 1, .v 0] [tI]<|
.op (.bin .lss) [.v 0, .k (.int .i64 0)] [tB]<|
.ite (.v 0) (
 .ret [[.k (.int .i64 (-1))]]) (
 .ret [[.v 1]])
def lb82:List (Key×List (Nat×List Ty)):=[]
theorem m82:mt 82 Tryz.f82 [] [] [] lb82=some (t82_0,[]):=by kernel_rfl
def t90_0:T:=
.op (.bin .neq) [.v 6, .k (.int .i64 1)] [tB]<|
.ite (.v 0) (
 .op (.len) [.v 5] [tI]<|
 .op (.bin .gtr) [.v 0, .k (.int .i64 0)] [tB]<|
 .ite (.v 0) (
 .go 0 [.v 11, .v 10, .v 9, .v 8, .v 7, .v 6, .v 5, .v 4, .v 3, .k (.bool true)]) (
 .op (.len) [.v 4] [tI]<|
 .op (.bin .gtr) [.v 0, .k (.int .i64 0)] [tB]<|
 .ite (.v 0) (
 .go 0 [.v 13, .v 12, .v 11, .v 10, .v 9, .v 8, .v 7, .v 6, .v 5, .k (.bool true)]) (
 .op (.bin .neq) [.v 11, .k (.int .i64 3)] [tB]<|
 .ite (.v 0) (
 .op (.len) [.v 8] [tI]<|
 .op (.bin .gtr) [.v 0, .k (.int .i64 0)] [tB]<|
 .go 0 [.v 16, .v 15, .v 14, .v 13, .v 12, .v 11, .v 10, .v 9, .v 8, .v 0]) (
 .go 0 [.v 14, .v 13, .v 12, .v 11, .v 10, .v 9, .v 8, .v 7, .v 6, .k (.bool false)])))) (
 .op (.bin .neq) [.v 7, .k (.int .i64 3)] [tB]<|
 .ite (.v 0) (
 .op (.len) [.v 4] [tI]<|
 .op (.bin .gtr) [.v 0, .k (.int .i64 0)] [tB]<|
 .go 0 [.v 12, .v 11, .v 10, .v 9, .v 8, .v 7, .v 6, .v 5, .v 4, .v 0]) (
 .go 0 [.v 10, .v 9, .v 8, .v 7, .v 6, .v 5, .v 4, .v 3, .v 2, .k (.bool false)]))
def t90_1:T:=
.ite (.v 0) (
 .ret [[.k (.bool false)]]) (
 .op (.bin .eql) [.v 7, .k (.int .i64 0)] [tB]<|
 .ite (.v 0) (
 .op (.bin .eql) [.v 7, .k (.int .i64 0)] [tB]<|
 .ite (.v 0) (
 .op (.len) [.v 6] [tI]<|
 .op (.bin .eql) [.v 0, .k (.int .i64 1)] [tB]<|
 .ret [[.v 0]]) (
 .ret [[.k (.bool false)]])) (
 .op (.bin .eql) [.v 8, .k (.int .i64 2)] [tB]<|
 .ite (.v 0) (
 .op (.bin .eql) [.v 8, .k (.int .i64 0)] [tB]<|
 .ite (.v 0) (
 .op (.len) [.v 7] [tI]<|
 .op (.bin .eql) [.v 0, .k (.int .i64 1)] [tB]<|
 .ret [[.v 0]]) (
 .ret [[.k (.bool false)]])) (
 .op (.bin .eql) [.v 9, .k (.int .i64 3)] [tB]<|
 .ite (.v 0) (
 .op (.bin .eql) [.v 9, .k (.int .i64 0)] [tB]<|
 .ite (.v 0) (
 .op (.len) [.v 8] [tI]<|
 .op (.bin .eql) [.v 0, .k (.int .i64 1)] [tB]<|
 .ret [[.v 0]]) (
 .ret [[.k (.bool false)]])) (
 .op (.bin .eql) [.v 10, .k (.int .i64 1)] [tB]<|
 .ite (.v 0) (
 .call 49 [[.v 10],[.k (.int .i64 0)],[.k (.int .i64 4)]] [[tB]]<|
 .ite (.v 0) (
 .op (.len) [.v 9] [tI]<|
 .op (.len) [.v 11] [tI]<|
 .op (.bin .eql) [.v 1, .v 0] [tB]<|
 .ite (.v 0) (
 .call 125 [[.v 13]] [[tB]]<|
 .ite (.v 0) (
 .op (.row 10) [.v 18, .v 17] [tI,tL 3,tL 1,tI,tI,tL 1,tL 1,tL 5,tL 2,tL 7]<|
 .op (.len) [.v 7] [tI]<|
 .call 126 [[.v 22],[.v 0]] [[tB]]<|
 .ret [[.v 0]]) (
 .ret [[.k (.bool false)]])) (
 .ret [[.k (.bool false)]])) (
 .ret [[.k (.bool false)]])) (
 .op (.bin .eql) [.v 11, .k (.int .i64 4)] [tB]<|
 .ite (.v 0) (
 .op (.bin .add) [.v 13, .k (.int .i64 1)] [tI]<|
 .op (.len) [.v 15] [tI]<|
 .op (.bin .sub) [.v 0, .k (.int .i64 1)] [tI]<|
 .call 49 [[.v 14],[.v 2],[.v 0]] [[tB]]<|
 .ite (.v 0) (
 .op (.len) [.v 13] [tI]<|
 .op (.row 10) [.v 19, .v 16] [tI,tL 3,tL 1,tI,tI,tL 1,tL 1,tL 5,tL 2,tL 7]<|
 .op (.bin .eql) [.v 10, .v 9] [tB]<|
 .ret [[.v 0]]) (
 .ret [[.k (.bool false)]])) (
 .op (.bin .eql) [.v 12, .k (.int .i64 5)] [tB]<|
 .ite (.v 0) (
 .call 49 [[.v 12],[.k (.int .i64 0)],[.k (.int .i64 1)]] [[tB]]<|
 .ite (.v 0) (
 .op (.len) [.v 11] [tI]<|
 .op (.bin .eql) [.v 0, .k (.int .i64 1)] [tB]<|
 .ret [[.v 0]]) (
 .ret [[.k (.bool false)]])) (
 .ret [[.k (.bool false)]])))))))
def lb90:List (Key×List (Nat×List Ty)):=[(.atc 32,[(0,[tL 10]),(1,[tI]),(5,[tI,tI,tL 1,tL 1,tL 5,tL 2,tL 7]),(32,[tB])])]
theorem m90:mt 90 Tryz.f90 [] [] [] lb90=some (t90_0,[t90_1]):=by kernel_rfl
def t104_0:T:=
.op (.len) [.v 0] [tI]<|
.op (.mk [.int .i64 0, .int .i64 0, .sl 1 [], .sl 1 [], .sl 5 [], .sl 2 [], .sl 7 []]) [.v 0] [tL 7]<|
.go 0 [.v 2, .v 0, .k (.int .i64 0)]
def t104_1:T:=
.op (.len) [.v 2] [tI]<|
.op (.bin .lss) [.v 1, .v 0] [tB]<|
.ite (.v 0) (
 .op (.row 7) [.v 4, .v 2] [tI,tI,tL 1,tL 1,tL 5,tL 2,tL 7]<|
 .call 61 [[.v 6, .v 5, .v 4, .v 3, .v 2, .v 1, .v 0]] [[tI,tI,tL 1,tL 1,tL 5,tL 2,tL 7]]<|
 .op (.idx 7) [.v 17, .v 16] [tI]<|
 .op (.putp [] 0 7 false) [.v 18, .v 0, .v 7, .v 6, .v 5, .v 4, .v 3, .v 2, .v 1] [tL 7]<|
 .op (.bin .add) [.v 18, .k (.int .i64 1)] [tI]<|
 .go 0 [.v 21, .v 1, .v 0]) (
 .ret [[.v 3]])
def lb104:List (Key×List (Nat×List Ty)):=[(.head 0,[(0,[tL 7]),(3,[tL 7]),(4,[tI])])]
theorem m104:mt 104 Tryz.f104 [] [] [] lb104=some (t104_0,[t104_1]):=by kernel_rfl
def t112_0:T:=
.op (.bin .neq) [.v 5, .v 2] [tB]<|
.ite (.v 0) (
 .ret [[.k (.bool false)]]) (
 .op (.bin .neq) [.v 5, .v 2] [tB]<|
 .ite (.v 0) (
 .ret [[.k (.bool false)]]) (
 .op (.bin .neq) [.v 5, .v 2] [tB]<|
 .ite (.v 0) (
 .ret [[.k (.bool false)]]) (
 .ret [[.k (.bool true)]])))
def lb112:List (Key×List (Nat×List Ty)):=[]
theorem m112:mt 112 Tryz.f112 [] [] [] lb112=some (t112_0,[]):=by kernel_rfl
def t113_0:T:=
.op (.len) [.v 1] [tI]<|
.op (.len) [.v 1] [tI]<|
.op (.bin .neq) [.v 1, .v 0] [tB]<|
.ite (.v 0) (
 .ret [[.k (.bool false)]]) (
 .go 0 [.v 4, .v 3, .k (.int .i64 0)])
def t113_1:T:=
.op (.len) [.v 2] [tI]<|
.op (.bin .lss) [.v 1, .v 0] [tB]<|
.ite (.v 0) (
 .op (.row 2) [.v 4, .v 2] [tI,tL 5]<|
 .op (.row 2) [.v 5, .v 4] [tI,tL 5]<|
 .call 142 [[.v 3, .v 2],[.v 1, .v 0]] [[tB]]<|
 .op (.not) [.v 0] [tB]<|
 .ite (.v 0) (
 .ret [[.k (.bool false)]]) (
 .op (.bin .add) [.v 8, .k (.int .i64 1)] [tI]<|
 .go 0 [.v 11, .v 10, .v 0])) (
 .ret [[.k (.bool true)]])
def lb113:List (Key×List (Nat×List Ty)):=[(.head 0,[(0,[tL 2]),(1,[tL 2]),(5,[tI])])]
theorem m113:mt 113 Tryz.f113 [] [] [] lb113=some (t113_0,[t113_1]):=by kernel_rfl
def t125_0:T:=
.go 0 [.v 0, .k (.int .i64 0)]
def t125_1:T:=
.op (.len) [.v 1] [tI]<|
.op (.bin .lss) [.v 1, .v 0] [tB]<|
.ite (.v 0) (
 .op (.row 1) [.v 3, .v 2] [tI]<|
 .call 49 [[.v 0],[.k (.int .i64 0)],[.k (.int .i64 3)]] [[tB]]<|
 .op (.not) [.v 0] [tB]<|
 .ite (.v 0) (
 .ret [[.k (.bool false)]]) (
 .op (.bin .gtr) [.v 5, .k (.int .i64 0)] [tB]<|
 .ite (.v 0) (
 .op (.row 1) [.v 7, .v 6] [tI]<|
 .op (.bin .sub) [.v 7, .k (.int .i64 1)] [tI]<|
 .op (.row 1) [.v 9, .v 0] [tI]<|
 .op (.bin .leq) [.v 2, .v 0] [tB]<|
 .ite (.v 0) (
 .ret [[.k (.bool false)]]) (
 .op (.bin .add) [.v 10, .k (.int .i64 1)] [tI]<|
 .go 0 [.v 12, .v 0])) (
 .op (.bin .add) [.v 6, .k (.int .i64 1)] [tI]<|
 .go 0 [.v 8, .v 0]))) (
 .ret [[.k (.bool true)]])
def lb125:List (Key×List (Nat×List Ty)):=[(.head 0,[(0,[tL 1]),(3,[tI])])]
theorem m125:mt 125 Tryz.f125 [] [] [] lb125=some (t125_0,[t125_1]):=by kernel_rfl
def t129_0:T:=
.go 0 [.v 1, .v 0, .k (.int .i64 0)]
def t129_1:T:=
.op (.len) [.v 2] [tI]<|
.op (.bin .lss) [.v 1, .v 0] [tB]<|
.ite (.v 0) (
 .op (.row 2) [.v 4, .v 2] [tL 2,tL 3]<|
 .call 55 [[.v 1],[.v 5]] [[tI]]<|
 .op (.bin .lss) [.v 0, .k (.int .i64 0)] [tB]<|
 .ite (.v 0) (
 .op (.bin .add) [.v 6, .k (.int .i64 1)] [tI]<|
 .go 0 [.v 9, .v 8, .v 0]) (
 .op (.len) [.v 8] [tI]<|
 .op (.bin .lss) [.v 7, .v 0] [tB]<|
 .ite (.v 0) (
 .op (.row 2) [.v 10, .v 8] [tL 2,tL 3]<|
 .call 55 [[.v 1],[.v 11]] [[tI]]<|
 .op (.bin .eql) [.v 0, .k (.int .i64 0)] [tB]<|
 .ret [[.v 12, .v 0]]) (
 .ret [[.v 8, .k (.bool false)]]))) (
 .op (.len) [.v 4] [tI]<|
 .op (.bin .lss) [.v 3, .v 0] [tB]<|
 .ite (.v 0) (
 .op (.row 2) [.v 6, .v 4] [tL 2,tL 3]<|
 .call 55 [[.v 1],[.v 7]] [[tI]]<|
 .op (.bin .eql) [.v 0, .k (.int .i64 0)] [tB]<|
 .ret [[.v 8, .v 0]]) (
 .ret [[.v 4, .k (.bool false)]]))
def lb129:List (Key×List (Nat×List Ty)):=[(.head 0,[(0,[tL 2]),(1,[tL 2]),(6,[tI])])]
theorem m129:mt 129 Tryz.f129 [] [] [] lb129=some (t129_0,[t129_1]):=by kernel_rfl
def t132_0:T:=
.ret [[.v 1, .v 0]]
def lb132:List (Key×List (Nat×List Ty)):=[]
theorem m132:mt 132 Tryz.f132 [] [] [] lb132=some (t132_0,[]):=by kernel_rfl
def t144_0:T:=
.op (.bin .neq) [.v 3, .v 1] [tB]<|
.ite (.v 0) (
 .ret [[.k (.bool false)]]) (
 .op (.bin .neq) [.v 3, .v 1] [tB]<|
 .ite (.v 0) (
 .ret [[.k (.bool false)]]) (
 .ret [[.k (.bool true)]]))
def lb144:List (Key×List (Nat×List Ty)):=[]
theorem m144:mt 144 Tryz.f144 [] [] [] lb144=some (t144_0,[]):=by kernel_rfl
def t157_0:T:=
.op (.bin .eql) [.v 5, .k (.int .i64 1)] [tB]<|
.ite (.v 0) (
 .op (.bin .eql) [.v 3, .k (.int .i64 1)] [tB]<|
 .op (.bin .eql) [.v 8, .k (.int .i64 4)] [tB]<|
 .go 0 [.v 9, .v 8, .v 7, .v 6, .v 5, .v 4, .v 3, .k (.int .i64 0), .k (.int .i64 0), .k (.str []), .v 1, .v 0]) (
 .op (.bin .eql) [.v 7, .k (.int .i64 4)] [tB]<|
 .go 0 [.v 8, .v 7, .v 6, .v 5, .v 4, .v 3, .v 2, .k (.int .i64 0), .k (.int .i64 0), .k (.str []), .k (.bool false), .v 0])
def t157_1:T:=
.ite (.v 0) (
 .op (.eqs false 3 [.int .i64 0, .int .i64 0, .str []]) [.v 10, .v 9, .v 8, .v 7, .v 6, .v 5] [tB]<|
 .call 164 [[.v 0]] [[tI,tI,tS]]<|
 .ret [[.v 2, .v 1, .v 0]]) (
 .op (.bin .eql) [.v 11, .k (.int .i64 6)] [tB]<|
 .ite (.v 0) (
 .call 149 [[.v 11, .v 10, .v 9]] [[tB]]<|
 .ite (.v 0) (
 .ret [[.v 9, .v 8, .v 7]]) (
 .ret [[.v 12, .v 11, .v 10]])) (
 .op (.bin .eql) [.v 12, .k (.int .i64 5)] [tB]<|
 .ite (.v 0) (
 .call 146 [[.v 12, .v 11, .v 10]] [[tS]]<|
 .call 146 [[.v 10, .v 9, .v 8]] [[tS]]<|
 .op (.bin .add) [.v 1, .v 0] [tS]<|
 .call 122 [[.v 0]] [[tB]]<|
 .op (.not) [.v 0] [tB]<|
 .ite (.v 0) (
 .ret [[.k (.int .i64 0), .k (.int .i64 0), .k (.str [])]]) (
 .ret [[.k (.int .i64 2), .k (.int .i64 0), .v 2]])) (
 .op (.not) [.v 3] [tB]<|
 .ite (.v 0) (
 .ret [[.k (.int .i64 0), .k (.int .i64 0), .k (.str [])]]) (
 .op (.bin .eql) [.v 14, .k (.int .i64 0)] [tB]<|
 .ite (.v 0) (
 .op (.bin .add) [.v 13, .v 10] [tI]<|
 .call 165 [[.v 0]] [[tI,tI,tS]]<|
 .ret [[.v 2, .v 1, .v 0]]) (
 .op (.bin .eql) [.v 15, .k (.int .i64 1)] [tB]<|
 .ite (.v 0) (
 .op (.bin .sub) [.v 14, .v 11] [tI]<|
 .call 165 [[.v 0]] [[tI,tI,tS]]<|
 .ret [[.v 2, .v 1, .v 0]]) (
 .op (.bin .eql) [.v 16, .k (.int .i64 2)] [tB]<|
 .ite (.v 0) (
 .op (.bin .mul) [.v 15, .v 12] [tI]<|
 .call 165 [[.v 0]] [[tI,tI,tS]]<|
 .ret [[.v 2, .v 1, .v 0]]) (
 .op (.bin .lss) [.v 15, .v 12] [tB]<|
 .call 164 [[.v 0]] [[tI,tI,tS]]<|
 .ret [[.v 2, .v 1, .v 0]])))))))
def lb157:List (Key×List (Nat×List Ty)):=[(.atc 17,[(0,[tI]),(4,[tI,tI,tS]),(5,[tI,tI,tS]),(6,[tI,tI,tS]),(7,[tB]),(17,[tB])])]
theorem m157:mt 157 Tryz.f157 [] [] [] lb157=some (t157_0,[t157_1]):=by kernel_rfl
end Go.Own
