/- A part of the proof that the last text of this folder tells of. -/
import Derived.Test.YthdgipjkbmmaoaaGreatDoorTae
import Derived.Test.YthdgipjkbmmaoaaGreatDoorTan
set_option maxRecDepth 100000
namespace Go.Own
open Go Go.Proofs
def t65_0:T:=
.op (.row 10) [.v 10, .v 9] [tI,tL 3,tL 1,tI,tI,tL 1,tL 1,tL 5,tL 2,tL 7]<|
.op (.bin .gtr) [.v 11, .k (.int .i64 4)] [tB]<|
.ite (.v 0) (
 .ret [[.k (.bool false)]]) (
 .op (.bin .neq) [.v 19, .k (.int .i64 1)] [tB]<|
 .ite (.v 0) (
 .op (.len) [.v 18] [tI]<|
 .op (.bin .gtr) [.v 0, .k (.int .i64 0)] [tB]<|
 .ite (.v 0) (
 .go 0 [.v 24, .v 23, .v 15, .v 14, .v 22, .v 21, .v 20, .v 19, .v 18, .v 17, .v 16, .v 13, .v 12, .v 11, .v 10, .v 9, .v 8, .v 7, .v 6, .v 5, .v 4, .k (.bool true)]) (
 .op (.len) [.v 17] [tI]<|
 .op (.bin .gtr) [.v 0, .k (.int .i64 0)] [tB]<|
 .ite (.v 0) (
 .go 0 [.v 26, .v 25, .v 17, .v 16, .v 24, .v 23, .v 22, .v 21, .v 20, .v 19, .v 18, .v 15, .v 14, .v 13, .v 12, .v 11, .v 10, .v 9, .v 8, .v 7, .v 6, .k (.bool true)]) (
 .op (.bin .neq) [.v 24, .k (.int .i64 3)] [tB]<|
 .ite (.v 0) (
 .op (.len) [.v 21] [tI]<|
 .op (.bin .gtr) [.v 0, .k (.int .i64 0)] [tB]<|
 .go 0 [.v 29, .v 28, .v 20, .v 19, .v 27, .v 26, .v 25, .v 24, .v 23, .v 22, .v 21, .v 18, .v 17, .v 16, .v 15, .v 14, .v 13, .v 12, .v 11, .v 10, .v 9, .v 0]) (
 .go 0 [.v 27, .v 26, .v 18, .v 17, .v 25, .v 24, .v 23, .v 22, .v 21, .v 20, .v 19, .v 16, .v 15, .v 14, .v 13, .v 12, .v 11, .v 10, .v 9, .v 8, .v 7, .k (.bool false)])))) (
 .op (.bin .neq) [.v 20, .k (.int .i64 3)] [tB]<|
 .ite (.v 0) (
 .op (.len) [.v 17] [tI]<|
 .op (.bin .gtr) [.v 0, .k (.int .i64 0)] [tB]<|
 .go 0 [.v 25, .v 24, .v 16, .v 15, .v 23, .v 22, .v 21, .v 20, .v 19, .v 18, .v 17, .v 14, .v 13, .v 12, .v 11, .v 10, .v 9, .v 8, .v 7, .v 6, .v 5, .v 0]) (
 .go 0 [.v 23, .v 22, .v 14, .v 13, .v 21, .v 20, .v 19, .v 18, .v 17, .v 16, .v 15, .v 12, .v 11, .v 10, .v 9, .v 8, .v 7, .v 6, .v 5, .v 4, .v 3, .k (.bool false)])))
def t65_1:T:=
.ite (.v 0) (
 .ret [[.k (.bool false)]]) (
 .op (.bin .eql) [.v 17, .k (.int .i64 0)] [tB]<|
 .ite (.v 0) (
 .op (.bin .neq) [.v 17, .k (.int .i64 0)] [tB]<|
 .go 1 [.v 23, .v 22, .v 21, .v 20, .v 19, .v 18, .v 17, .v 16, .v 15, .v 14, .v 13, .v 12, .v 11, .v 10, .v 9, .v 8, .v 7, .v 6, .v 5, .v 4, .v 3, .v 0]) (
 .op (.bin .eql) [.v 18, .k (.int .i64 2)] [tB]<|
 .ite (.v 0) (
 .op (.bin .neq) [.v 18, .k (.int .i64 0)] [tB]<|
 .go 1 [.v 24, .v 23, .v 22, .v 21, .v 20, .v 19, .v 18, .v 17, .v 16, .v 15, .v 14, .v 13, .v 12, .v 11, .v 10, .v 9, .v 8, .v 7, .v 6, .v 5, .v 4, .v 0]) (
 .op (.bin .eql) [.v 19, .k (.int .i64 3)] [tB]<|
 .ite (.v 0) (
 .op (.bin .neq) [.v 19, .k (.int .i64 0)] [tB]<|
 .go 1 [.v 25, .v 24, .v 23, .v 22, .v 21, .v 20, .v 19, .v 18, .v 17, .v 16, .v 15, .v 14, .v 13, .v 12, .v 11, .v 10, .v 9, .v 8, .v 7, .v 6, .v 5, .v 0]) (
 .go 1 [.v 24, .v 23, .v 22, .v 21, .v 20, .v 19, .v 18, .v 17, .v 16, .v 15, .v 14, .v 13, .v 12, .v 11, .v 10, .v 9, .v 8, .v 7, .v 6, .v 5, .v 4, .k (.bool false)]))))
def t65_2:T:=
.ite (.v 0) (
 .ret [[.k (.bool false)]]) (
 .op (.bin .eql) [.v 17, .k (.int .i64 0)] [tB]<|
 .ite (.v 0) (
 .go 2 [.v 22, .v 21, .v 20, .v 19, .v 18, .v 17, .v 16, .v 15, .v 14, .v 13, .v 12, .v 11, .v 10, .v 9, .v 8, .v 7, .v 6, .v 5, .v 4, .v 3, .v 2, .k (.int .i64 1), .k (.int .i64 0), .k (.int .i64 0)]) (
 .op (.bin .eql) [.v 18, .k (.int .i64 1)] [tB]<|
 .ite (.v 0) (
 .op (.len) [.v 17] [tI]<|
 .call 63 [[.v 19],[.k (.int .i64 0)],[.k (.int .i64 4)]] [[tB]]<|
 .op (.not) [.v 0] [tB]<|
 .ite (.v 0) (
 .ret [[.k (.bool false)]]) (
 .op (.len) [.v 20] [tI]<|
 .go 3 [.v 27, .v 26, .v 25, .v 24, .v 23, .v 22, .v 21, .v 20, .v 19, .v 18, .v 17, .v 16, .v 15, .v 14, .v 13, .v 12, .v 11, .v 10, .v 9, .v 8, .v 7, .v 3, .k (.int .i64 0), .k (.int .i64 4), .v 21, .v 0, .k (.int .i64 0)])) (
 .op (.bin .eql) [.v 19, .k (.int .i64 2)] [tB]<|
 .ite (.v 0) (
 .go 2 [.v 24, .v 23, .v 22, .v 21, .v 20, .v 19, .v 18, .v 17, .v 16, .v 15, .v 14, .v 13, .v 12, .v 11, .v 10, .v 9, .v 8, .v 7, .v 6, .v 5, .v 4, .k (.int .i64 1), .k (.int .i64 1), .k (.int .i64 2)]) (
 .op (.bin .eql) [.v 20, .k (.int .i64 3)] [tB]<|
 .ite (.v 0) (
 .op (.len) [.v 17] [tI]<|
 .op (.bin .gtr) [.v 0, .k (.int .i64 0)] [tB]<|
 .ite (.v 0) (
 .op (.len) [.v 15] [tI]<|
 .op (.bin .add) [.v 25, .k (.int .i64 1)] [tI]<|
 .call 106 [[.v 21],[.v 18],[.v 1],[.v 0]] [[tB]]<|
 .op (.not) [.v 0] [tB]<|
 .ite (.v 0) (
 .ret [[.k (.bool false)]]) (
 .go 2 [.v 31, .v 30, .v 29, .v 28, .v 27, .v 26, .v 25, .v 24, .v 23, .v 22, .v 21, .v 20, .v 19, .v 18, .v 17, .v 16, .v 15, .v 14, .v 13, .v 12, .v 11, .k (.int .i64 1), .k (.int .i64 1), .k (.int .i64 1)])) (
 .go 2 [.v 27, .v 26, .v 25, .v 24, .v 23, .v 22, .v 21, .v 20, .v 19, .v 18, .v 17, .v 16, .v 15, .v 14, .v 13, .v 12, .v 11, .v 10, .v 9, .v 8, .v 7, .k (.int .i64 1), .k (.int .i64 1), .k (.int .i64 1)])) (
 .op (.bin .eql) [.v 21, .k (.int .i64 4)] [tB]<|
 .ite (.v 0) (
 .op (.bin .add) [.v 25, .k (.int .i64 1)] [tI]<|
 .op (.len) [.v 27] [tI]<|
 .op (.bin .sub) [.v 0, .k (.int .i64 1)] [tI]<|
 .call 63 [[.v 24],[.v 2],[.v 0]] [[tB]]<|
 .op (.not) [.v 0] [tB]<|
 .ite (.v 0) (
 .ret [[.k (.bool false)]]) (
 .op (.row 10) [.v 31, .v 26] [tI,tL 3,tL 1,tI,tI,tL 1,tL 1,tL 5,tL 2,tL 7]<|
 .go 2 [.v 41, .v 40, .v 39, .v 38, .v 37, .v 36, .v 35, .v 34, .v 33, .v 32, .v 31, .v 30, .v 29, .v 28, .v 27, .v 26, .v 25, .v 24, .v 23, .v 22, .v 21, .v 9, .k (.int .i64 0), .k (.int .i64 0)])) (
 .op (.bin .eql) [.v 22, .k (.int .i64 5)] [tB]<|
 .ite (.v 0) (
 .call 63 [[.v 22],[.k (.int .i64 0)],[.k (.int .i64 1)]] [[tB]]<|
 .op (.not) [.v 0] [tB]<|
 .ite (.v 0) (
 .ret [[.k (.bool false)]]) (
 .go 2 [.v 29, .v 28, .v 27, .v 26, .v 25, .v 24, .v 23, .v 22, .v 21, .v 20, .v 19, .v 18, .v 17, .v 16, .v 15, .v 14, .v 13, .v 12, .v 11, .v 10, .v 9, .k (.int .i64 1), .k (.int .i64 0), .k (.int .i64 4)])) (
 .ret [[.k (.bool false)]])))))))
def t65_3:T:=
.op (.len) [.v 16] [tI]<|
.op (.bin .neq) [.v 0, .v 3] [tB]<|
.ite (.v 0) (
 .ret [[.k (.bool false)]]) (
 .op (.len) [.v 15] [tI]<|
 .call 63 [[.v 0],[.v 4],[.v 3]] [[tB]]<|
 .op (.not) [.v 0] [tB]<|
 .ite (.v 0) (
 .ret [[.k (.bool false)]]) (
 .call 107 [[.v 17, .v 16, .v 15, .v 14, .v 13, .v 12, .v 11, .v 10, .v 9, .v 8],[.v 21],[.v 25]] [[tB]]<|
 .op (.not) [.v 0] [tB]<|
 .ite (.v 0) (
 .ret [[.k (.bool false)]]) (
 .op (.bin .eql) [.v 26, .k (.int .i64 3)] [tB]<|
 .ite (.v 0) (
 .op (.bin .add) [.v 28, .k (.int .i64 1)] [tI]<|
 .op (.len) [.v 22] [tI]<|
 .go 4 [.v 33, .v 32, .v 31, .v 1, .v 23, .v 0, .k (.int .i64 0)]) (
 .op (.len) [.v 21] [tI]<|
 .go 4 [.v 32, .v 31, .v 30, .v 29, .v 22, .v 0, .k (.int .i64 0)]))))
def t65_4:T:=
.op (.bin .lss) [.v 0, .v 1] [tB]<|
.ite (.v 0) (
 .op (.row 1) [.v 3, .v 1] [tI]<|
 .call 63 [[.v 0],[.k (.int .i64 0)],[.k (.int .i64 3)]] [[tB]]<|
 .op (.not) [.v 0] [tB]<|
 .ite (.v 0) (
 .ret [[.k (.bool false)]]) (
 .op (.bin .gtr) [.v 4, .k (.int .i64 0)] [tB]<|
 .ite (.v 0) (
 .op (.bin .sub) [.v 5, .k (.int .i64 1)] [tI]<|
 .op (.row 1) [.v 26, .v 0] [tI]<|
 .op (.bin .leq) [.v 5, .v 0] [tB]<|
 .ite (.v 0) (
 .ret [[.k (.bool false)]]) (
 .op (.bin .add) [.v 8, .k (.int .i64 1)] [tI]<|
 .go 3 [.v 35, .v 34, .v 33, .v 32, .v 31, .v 30, .v 29, .v 28, .v 27, .v 26, .v 25, .v 24, .v 23, .v 22, .v 21, .v 20, .v 19, .v 18, .v 17, .v 16, .v 15, .v 14, .v 13, .v 12, .v 11, .v 10, .v 0])) (
 .op (.bin .add) [.v 5, .k (.int .i64 1)] [tI]<|
 .go 3 [.v 32, .v 31, .v 30, .v 29, .v 28, .v 27, .v 26, .v 25, .v 24, .v 23, .v 22, .v 21, .v 20, .v 19, .v 18, .v 17, .v 16, .v 15, .v 14, .v 13, .v 12, .v 11, .v 10, .v 9, .v 8, .v 7, .v 0]))) (
 .op (.len) [.v 18] [tI]<|
 .go 5 [.v 28, .v 27, .v 26, .v 25, .v 24, .v 23, .v 22, .v 21, .v 20, .v 19, .v 18, .v 17, .v 16, .v 15, .v 14, .v 13, .v 12, .v 11, .v 10, .v 9, .v 8, .v 7, .v 6, .v 5, .v 19, .v 0, .k (.int .i64 0)])
def t65_5:T:=
.op (.bin .lss) [.v 0, .v 1] [tB]<|
.ite (.v 0) (
 .op (.row 7) [.v 3, .v 1] [tI,tI,tL 1,tL 1,tL 5,tL 2,tL 7]<|
 .op (.bin .add) [.v 12, .k (.int .i64 1)] [tI]<|
 .call 65 [[.v 15],[.v 14],[.v 7, .v 6, .v 5, .v 4, .v 3, .v 2, .v 1],[.v 0],[.v 12]] [[tB]]<|
 .op (.not) [.v 0] [tB]<|
 .ite (.v 0) (
 .ret [[.k (.bool false)]]) (
 .op (.bin .add) [.v 11, .k (.int .i64 1)] [tI]<|
 .go 4 [.v 18, .v 17, .v 16, .v 15, .v 14, .v 13, .v 0])) (
 .ret [[.k (.bool true)]])
def t65_6:T:=
.op (.bin .lss) [.v 0, .v 1] [tB]<|
.ite (.v 0) (
 .op (.row 2) [.v 3, .v 1] [tI,tI]<|
 .call 63 [[.v 1],[.k (.int .i64 0)],[.k (.int .i64 2)]] [[tB]]<|
 .op (.not) [.v 0] [tB]<|
 .ite (.v 0) (
 .ret [[.k (.bool false)]]) (
 .op (.bin .gtr) [.v 5, .k (.int .i64 0)] [tB]<|
 .ite (.v 0) (
 .op (.bin .sub) [.v 6, .k (.int .i64 1)] [tI]<|
 .op (.row 2) [.v 24, .v 0] [tI,tI]<|
 .op (.bin .leq) [.v 7, .v 1] [tB]<|
 .ite (.v 0) (
 .ret [[.k (.bool false)]]) (
 .op (.len) [.v 23] [tI]<|
 .op (.bin .sub) [.v 0, .k (.int .i64 1)] [tI]<|
 .call 63 [[.v 9],[.k (.int .i64 0)],[.v 0]] [[tB]]<|
 .op (.not) [.v 0] [tB]<|
 .ite (.v 0) (
 .ret [[.k (.bool false)]]) (
 .op (.bin .add) [.v 14, .k (.int .i64 1)] [tI]<|
 .go 5 [.v 41, .v 40, .v 39, .v 38, .v 37, .v 36, .v 35, .v 34, .v 33, .v 32, .v 31, .v 30, .v 29, .v 28, .v 27, .v 26, .v 25, .v 24, .v 23, .v 22, .v 21, .v 20, .v 19, .v 18, .v 17, .v 16, .v 0]))) (
 .op (.len) [.v 19] [tI]<|
 .op (.bin .sub) [.v 0, .k (.int .i64 1)] [tI]<|
 .call 63 [[.v 5],[.k (.int .i64 0)],[.v 0]] [[tB]]<|
 .op (.not) [.v 0] [tB]<|
 .ite (.v 0) (
 .ret [[.k (.bool false)]]) (
 .op (.bin .add) [.v 10, .k (.int .i64 1)] [tI]<|
 .go 5 [.v 37, .v 36, .v 35, .v 34, .v 33, .v 32, .v 31, .v 30, .v 29, .v 28, .v 27, .v 26, .v 25, .v 24, .v 23, .v 22, .v 21, .v 20, .v 19, .v 18, .v 17, .v 16, .v 15, .v 14, .v 13, .v 12, .v 0])))) (
 .go 2 [.v 27, .v 26, .v 25, .v 24, .v 23, .v 22, .v 21, .v 20, .v 19, .v 18, .v 17, .v 16, .v 15, .v 14, .v 13, .v 12, .v 11, .v 10, .v 9, .v 8, .v 7, .v 6, .v 5, .v 4])
def lb65:List (Key×List (Nat×List Ty)):=[(.atc 52,[(0,[tL 10]),(1,[tI]),(3,[tI]),(4,[tI]),(7,[tI,tI,tL 1,tL 1,tL 5,tL 2,tL 7]),(11,[tI,tL 3,tL 1,tI,tI,tL 1,tL 1,tL 5,tL 2,tL 7]),(52,[tB])]),(.atc 70,[(0,[tL 10]),(1,[tI]),(3,[tI]),(4,[tI]),(7,[tI,tI,tL 1,tL 1,tL 5,tL 2,tL 7]),(11,[tI,tL 3,tL 1,tI,tI,tL 1,tL 1,tL 5,tL 2,tL 7]),(70,[tB])]),(.after 0,[(0,[tL 10]),(1,[tI]),(3,[tI]),(4,[tI]),(7,[tI,tI,tL 1,tL 1,tL 5,tL 2,tL 7]),(11,[tI,tL 3,tL 1,tI,tI,tL 1,tL 1,tL 5,tL 2,tL 7]),(12,[tI]),(13,[tI]),(14,[tI])]),(.head 1,[(0,[tL 10]),(1,[tI]),(3,[tI]),(4,[tI]),(7,[tI,tI,tL 1,tL 1,tL 5,tL 2,tL 7]),(11,[tI,tL 3,tL 1,tI,tI,tL 1,tL 1,tL 5,tL 2,tL 7]),(12,[tI]),(13,[tI]),(14,[tI]),(85,[tL 1]),(86,[tI]),(87,[tI])]),(.head 5,[(0,[tL 10]),(1,[tI]),(3,[tI]),(4,[tI]),(221,[tL 7]),(222,[tI]),(223,[tI])]),(.head 3,[(0,[tL 10]),(1,[tI]),(3,[tI]),(4,[tI]),(7,[tI,tI,tL 1,tL 1,tL 5,tL 2,tL 7]),(11,[tI,tL 3,tL 1,tI,tI,tL 1,tL 1,tL 5,tL 2,tL 7]),(12,[tI]),(13,[tI]),(14,[tI]),(111,[tL 2]),(112,[tI]),(113,[tI])])]
theorem m65:mt 65 Tryz.f65 [] [] [] lb65=some (t65_0,[t65_1,t65_2,t65_3,t65_4,t65_5,t65_6]):=by kernel_rfl
end Go.Own
