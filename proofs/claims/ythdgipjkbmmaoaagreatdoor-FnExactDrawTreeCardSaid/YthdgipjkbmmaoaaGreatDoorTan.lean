/- A part of the proof that the last text of this folder tells of. -/
import Derived.Test.YthdgipjkbmmaoaaGreatDoorTae
import Derived.Test.YthdgipjkbmmaoaaGreatDoorTam
set_option maxRecDepth 100000
namespace Go.Own
open Go Go.Proofs
def t110_0:T:=
.op (.bin .neq) [.v 11, .k (.int .i64 1)] [tB]<|
.ite (.v 0) (
 .op (.bin .neq) [.v 12, .k (.int .i64 4)] [tB]<|
 .ite (.v 0) (
 .op (.row 1) [.v 10, .k (.int .i64 0)] [tL 5]<|
 .call 137 [[.v 0],[.v 6, .v 5, .v 4, .v 3]] [[tI,tI,tS]]<|
 .go 0 [.v 33, .v 32, .v 31, .v 30, .v 29, .v 28, .v 27, .v 26, .v 25, .v 24, .v 23, .v 22, .v 21, .v 20, .v 19, .v 18, .v 10, .v 17, .v 16, .v 15, .v 14, .v 13, .v 12, .v 11, .v 9, .v 8, .v 7, .v 6, .v 2, .v 1, .v 0]) (
 .go 0 [.v 29, .v 28, .v 27, .v 26, .v 25, .v 24, .v 23, .v 22, .v 21, .v 20, .v 19, .v 18, .v 17, .v 16, .v 15, .v 14, .v 6, .v 13, .v 12, .v 11, .v 10, .v 9, .v 8, .v 7, .v 5, .v 4, .v 3, .v 2, .k (.int .i64 0), .k (.int .i64 0), .k (.str [])])) (
 .go 0 [.v 28, .v 27, .v 26, .v 25, .v 24, .v 23, .v 22, .v 21, .v 20, .v 19, .v 18, .v 17, .v 16, .v 15, .v 14, .v 13, .v 5, .v 12, .v 11, .v 10, .v 9, .v 8, .v 7, .v 6, .v 4, .v 3, .v 2, .v 1, .k (.int .i64 0), .k (.int .i64 0), .k (.str [])])
def t110_1:T:=
.op (.bin .eql) [.v 13, .k (.int .i64 0)] [tB]<|
.ite (.v 0) (
 .call 138 [[.v 3, .v 2, .v 1]] [[tS]]<|
 .op (.lit 5 [5]) [.k (.int .i64 (-1)), .k (.int .i64 (-1)), .v 0, .k (.sl 4 []), .k (.sl 5 [])] [tL 5]<|
 .ret [[.v 0],[.v 33, .v 32, .v 31, .v 30, .v 29, .v 28, .v 27, .v 26, .v 25, .v 24, .v 23, .v 22, .v 21, .v 20, .v 19, .v 18]]) (
 .op (.bin .eql) [.v 14, .k (.int .i64 1)] [tB]<|
 .ite (.v 0) (
 .op (.len) [.v 13] [tI]<|
 .go 1 [.v 33, .v 32, .v 31, .v 30, .v 29, .v 28, .v 27, .v 26, .v 25, .v 24, .v 23, .v 22, .v 21, .v 20, .v 19, .v 18, .v 17, .v 16, .v 15, .v 14, .v 13, .v 12, .v 11, .v 10, .v 9, .v 8, .v 7, .v 6, .v 15, .k (.int .i64 (-1)), .k (.str []), .k (.sl 4 []), .k (.sl 5 []), .v 14, .v 0, .k (.int .i64 0)]) (
 .op (.bin .eql) [.v 15, .k (.int .i64 2)] [tB]<|
 .ite (.v 0) (
 .call 140 [[.v 5, .v 4, .v 3]] [[tB]]<|
 .ite (.v 0) (
 .op (.row 7) [.v 11, .k (.int .i64 0)] [tI,tI,tL 1,tL 1,tL 5,tL 2,tL 7]<|
 .call 111 [[.v 25],[.k (.int .i64 0)],[.k (.int .i64 0)]] [[tL 2]]<|
 .call 110 [[.v 42, .v 41, .v 40, .v 39, .v 38, .v 37, .v 36, .v 35, .v 34, .v 33, .v 32, .v 31, .v 30, .v 29, .v 28, .v 27],[.v 7, .v 6, .v 5, .v 4, .v 3, .v 2, .v 1],[.v 0],[.v 18, .v 17, .v 16, .v 15]] [[tL 5],[tL 10,tL 2,tL 4,tL 2,tI,tI,tL 3,tL 1,tI,tI,tL 1,tL 1,tL 5,tL 2,tL 7,tL 2]]<|
 .ret [[.v 16],[.v 15, .v 14, .v 13, .v 12, .v 11, .v 10, .v 9, .v 8, .v 7, .v 6, .v 5, .v 4, .v 3, .v 2, .v 1, .v 0]]) (
 .op (.len) [.v 11] [tI]<|
 .op (.bin .gtr) [.v 0, .k (.int .i64 1)] [tB]<|
 .ite (.v 0) (
 .op (.row 7) [.v 13, .k (.int .i64 1)] [tI,tI,tL 1,tL 1,tL 5,tL 2,tL 7]<|
 .call 111 [[.v 27],[.k (.int .i64 1)],[.k (.int .i64 0)]] [[tL 2]]<|
 .call 110 [[.v 44, .v 43, .v 42, .v 41, .v 40, .v 39, .v 38, .v 37, .v 36, .v 35, .v 34, .v 33, .v 32, .v 31, .v 30, .v 29],[.v 7, .v 6, .v 5, .v 4, .v 3, .v 2, .v 1],[.v 0],[.v 20, .v 19, .v 18, .v 17]] [[tL 5],[tL 10,tL 2,tL 4,tL 2,tI,tI,tL 3,tL 1,tI,tI,tL 1,tL 1,tL 5,tL 2,tL 7,tL 2]]<|
 .ret [[.v 16],[.v 15, .v 14, .v 13, .v 12, .v 11, .v 10, .v 9, .v 8, .v 7, .v 6, .v 5, .v 4, .v 3, .v 2, .v 1, .v 0]]) (
 .ret [[.k (.sl 5 [])],[.v 36, .v 35, .v 34, .v 33, .v 32, .v 31, .v 30, .v 29, .v 28, .v 27, .v 26, .v 25, .v 24, .v 23, .v 22, .v 21]]))) (
 .op (.bin .eql) [.v 16, .k (.int .i64 3)] [tB]<|
 .ite (.v 0) (
 .op (.bin .eql) [.v 6, .k (.int .i64 1)] [tB]<|
 .ite (.v 0) (
 .op (.mm true) [.v 6, .k (.int .i64 0)] [tI]<|
 .op (.mm false) [.v 0, .k (.int .i64 4)] [tI]<|
 .go 2 [.v 37, .v 36, .v 35, .v 34, .v 33, .v 32, .v 31, .v 30, .v 29, .v 28, .v 27, .v 26, .v 25, .v 24, .v 23, .v 22, .v 21, .v 20, .v 19, .v 18, .v 17, .v 16, .v 15, .v 14, .v 13, .v 12, .v 11, .v 10, .k (.sl 5 []), .k (.bool true), .k (.mp []), .v 0, .k (.int .i64 0)]) (
 .go 2 [.v 35, .v 34, .v 33, .v 32, .v 31, .v 30, .v 29, .v 28, .v 27, .v 26, .v 25, .v 24, .v 23, .v 22, .v 21, .v 20, .v 19, .v 18, .v 17, .v 16, .v 15, .v 14, .v 13, .v 12, .v 11, .v 10, .v 9, .v 8, .k (.sl 5 []), .k (.bool true), .k (.mp []), .k (.int .i64 0), .k (.int .i64 0)])) (
 .op (.bin .eql) [.v 17, .k (.int .i64 4)] [tB]<|
 .ite (.v 0) (
 .call 141 [[.v 19]] [[tL 2]]<|
 .call 136 [[.v 9]] [[tL 3]]<|
 .op (.len) [.v 17] [tI]<|
 .go 3 [.v 38, .v 37, .v 36, .v 35, .v 34, .v 33, .v 32, .v 31, .v 30, .v 29, .v 28, .v 27, .v 26, .v 25, .v 24, .v 23, .v 14, .v 13, .v 12, .v 11, .v 2, .v 20, .k (.sl 3 []), .v 1, .v 18, .v 0, .k (.int .i64 0)]) (
 .call 136 [[.v 8]] [[tL 3]]<|
 .op (.idx 3) [.v 0, .v 18] [tI]<|
 .op (.putp [] 0 3 true) [.v 1, .v 0, .v 9, .v 8, .v 7] [tL 3]<|
 .call 139 [[.v 38, .v 37, .v 36, .v 35, .v 34, .v 33, .v 32, .v 31, .v 30, .v 29, .v 28, .v 27, .v 26, .v 25, .v 24, .v 23],[.v 21, .v 20, .v 19, .v 18, .v 17, .v 16, .v 15],[.v 22],[.v 14, .v 13, .v 12, .v 0]] [[tL 5],[tL 10,tL 2,tL 4,tL 2,tI,tI,tL 3,tL 1,tI,tI,tL 1,tL 1,tL 5,tL 2,tL 7,tL 2]]<|
 .ret [[.v 16],[.v 15, .v 14, .v 13, .v 12, .v 11, .v 10, .v 9, .v 8, .v 7, .v 6, .v 5, .v 4, .v 3, .v 2, .v 1, .v 0]])))))
def t110_2:T:=
.op (.bin .lss) [.v 0, .v 1] [tB]<|
.ite (.v 0) (
 .op (.row 1) [.v 3, .v 1] [tI]<|
 .op (.row 1) [.v 17, .v 2] [tL 5]<|
 .call 137 [[.v 0],[.v 14, .v 13, .v 12, .v 11]] [[tI,tI,tS]]<|
 .op (.lit 4 [4]) [.v 4, .v 2, .v 1, .v 0] [tL 4]<|
 .op (.app 4 true) [.v 11, .v 0] [tL 4]<|
 .op (.bin .add) [.v 8, .k (.int .i64 1)] [tI]<|
 .go 1 [.v 44, .v 43, .v 42, .v 41, .v 40, .v 39, .v 38, .v 37, .v 36, .v 35, .v 34, .v 33, .v 32, .v 31, .v 30, .v 29, .v 28, .v 27, .v 26, .v 25, .v 24, .v 23, .v 22, .v 21, .v 20, .v 19, .v 18, .v 17, .v 16, .v 15, .v 14, .v 1, .v 12, .v 11, .v 10, .v 0]) (
 .op (.len) [.v 14] [tI]<|
 .op (.bin .gtr) [.v 0, .k (.int .i64 0)] [tB]<|
 .ite (.v 0) (
 .op (.app 2 true) [.k (.sl 2 []), .v 16] [tL 2]<|
 .op (.lit 2 [2]) [.v 35, .v 0] [tL 2]<|
 .op (.app 2 false) [.v 37, .v 0] [tL 2]<|
 .op (.bin .add) [.v 37, .k (.int .i64 1)] [tI]<|
 .call 139 [[.v 42, .v 41, .v 40, .v 1, .v 0, .v 37, .v 36, .v 35, .v 34, .v 33, .v 32, .v 31, .v 30, .v 29, .v 28, .v 27],[.v 25, .v 24, .v 23, .v 22, .v 21, .v 20, .v 19],[.v 26],[.v 18, .v 17, .v 16, .v 15]] [[tL 5],[tL 10,tL 2,tL 4,tL 2,tI,tI,tL 3,tL 1,tI,tI,tL 1,tL 1,tL 5,tL 2,tL 7,tL 2]]<|
 .op (.lit 5 [5]) [.v 31, .v 30, .v 29, .v 28, .v 16] [tL 5]<|
 .ret [[.v 0],[.v 16, .v 15, .v 14, .v 13, .v 12, .v 11, .v 10, .v 9, .v 8, .v 7, .v 6, .v 5, .v 4, .v 3, .v 2, .v 1]]) (
 .op (.bin .add) [.v 34, .k (.int .i64 1)] [tI]<|
 .call 139 [[.v 39, .v 38, .v 37, .v 36, .v 0, .v 34, .v 33, .v 32, .v 31, .v 30, .v 29, .v 28, .v 27, .v 26, .v 25, .v 24],[.v 22, .v 21, .v 20, .v 19, .v 18, .v 17, .v 16],[.v 23],[.v 15, .v 14, .v 13, .v 12]] [[tL 5],[tL 10,tL 2,tL 4,tL 2,tI,tI,tL 3,tL 1,tI,tI,tL 1,tL 1,tL 5,tL 2,tL 7,tL 2]]<|
 .op (.lit 5 [5]) [.v 28, .v 27, .v 26, .v 25, .v 16] [tL 5]<|
 .ret [[.v 0],[.v 16, .v 15, .v 14, .v 13, .v 12, .v 11, .v 10, .v 9, .v 8, .v 7, .v 6, .v 5, .v 4, .v 3, .v 2, .v 1]]))
def t110_3:T:=
.op (.bin .lss) [.v 0, .v 1] [tB]<|
.ite (.v 0) (
 .op (.lit 1 []) [] [tL 1]<|
 .op (.app 1 true) [.v 0, .v 8] [tL 1]<|
 .op (.lit 1 [1]) [.v 3] [tL 1]<|
 .op (.app 1 true) [.v 1, .v 0] [tL 1]<|
 .op (.len) [.v 16] [tI]<|
 .op (.bin .gtr) [.v 0, .k (.int .i64 0)] [tB]<|
 .ite (.v 0) (
 .call 137 [[.v 18],[.v 15, .v 14, .v 2, .v 12]] [[tI,tI,tS]]<|
 .op (.bin .eql) [.v 2, .k (.int .i64 1)] [tB]<|
 .ite (.v 0) (
 .call 63 [[.v 2],[.k (.int .i64 0)],[.k (.int .i64 99)]] [[tB]]<|
 .ite (.v 0) (
 .op (.bin .add) [.k (.int .i64 4), .v 3] [tI]<|
 .op (.mget) [.v 15, .v 4] [tB]<|
 .ite (.v 0) (
 .op (.bin .add) [.v 14, .k (.int .i64 1)] [tI]<|
 .go 2 [.v 47, .v 46, .v 45, .v 44, .v 43, .v 42, .v 41, .v 40, .v 39, .v 38, .v 37, .v 36, .v 35, .v 34, .v 33, .v 32, .v 31, .v 30, .v 29, .v 28, .v 27, .v 26, .v 25, .v 24, .v 23, .v 22, .v 21, .v 20, .v 19, .v 18, .v 17, .v 16, .v 0]) (
 .op (.mput) [.v 16, .v 5, .k (.bool true)] [tM]<|
 .go 4 [.v 47, .v 46, .v 45, .v 44, .v 43, .v 42, .v 41, .v 40, .v 39, .v 38, .v 37, .v 36, .v 35, .v 34, .v 33, .v 32, .v 31, .v 30, .v 29, .v 28, .v 27, .v 26, .v 25, .v 24, .v 23, .v 22, .v 21, .v 20, .v 19, .v 18, .v 23, .v 22, .v 10, .v 20, .v 2, .v 6, .v 0, .v 16, .v 15])) (
 .go 4 [.v 44, .v 43, .v 42, .v 41, .v 40, .v 39, .v 38, .v 37, .v 36, .v 35, .v 34, .v 33, .v 32, .v 31, .v 30, .v 29, .v 28, .v 27, .v 26, .v 25, .v 24, .v 23, .v 22, .v 21, .v 20, .v 19, .v 18, .v 17, .v 16, .v 15, .v 20, .v 19, .v 7, .v 17, .v 12, .k (.int .i64 (-1)), .v 14, .v 13, .v 12])) (
 .go 4 [.v 43, .v 42, .v 41, .v 40, .v 39, .v 38, .v 37, .v 36, .v 35, .v 34, .v 33, .v 32, .v 31, .v 30, .v 29, .v 28, .v 27, .v 26, .v 25, .v 24, .v 23, .v 22, .v 21, .v 20, .v 19, .v 18, .v 17, .v 16, .v 15, .v 14, .v 19, .v 18, .v 6, .v 16, .v 11, .k (.int .i64 (-1)), .v 13, .v 12, .v 11])) (
 .go 4 [.v 39, .v 38, .v 37, .v 36, .v 35, .v 34, .v 33, .v 32, .v 31, .v 30, .v 29, .v 28, .v 27, .v 26, .v 25, .v 24, .v 23, .v 22, .v 21, .v 20, .v 19, .v 18, .v 17, .v 16, .v 15, .v 14, .v 13, .v 12, .v 11, .v 10, .v 15, .v 14, .v 2, .v 12, .v 7, .k (.int .i64 (-1)), .v 9, .v 8, .v 7])) (
 .ret [[.v 5],[.v 33, .v 32, .v 31, .v 30, .v 29, .v 28, .v 27, .v 26, .v 25, .v 24, .v 23, .v 22, .v 21, .v 20, .v 19, .v 18]])
def t110_4:T:=
.op (.bin .lss) [.v 0, .v 1] [tB]<|
.ite (.v 0) (
 .op (.row 1) [.v 3, .v 1] [tL 5]<|
 .call 137 [[.v 0],[.v 12, .v 11, .v 10, .v 9]] [[tI,tI,tS]]<|
 .op (.lit 3 [3]) [.v 2, .v 1, .v 0] [tL 3]<|
 .op (.app 3 true) [.v 10, .v 0] [tL 3]<|
 .op (.bin .add) [.v 7, .k (.int .i64 1)] [tI]<|
 .go 3 [.v 34, .v 33, .v 32, .v 31, .v 30, .v 29, .v 28, .v 27, .v 26, .v 25, .v 24, .v 23, .v 22, .v 21, .v 20, .v 19, .v 18, .v 17, .v 16, .v 15, .v 14, .v 13, .v 1, .v 11, .v 10, .v 9, .v 0]) (
 .op (.lit 4 [4]) [.v 7, .v 6, .v 5, .v 4] [tL 4]<|
 .op (.app 4 false) [.v 26, .v 0] [tL 4]<|
 .op (.lit 5 [5]) [.k (.int .i64 (-2)), .k (.int .i64 (-1)), .k (.str []), .k (.sl 4 []), .k (.sl 5 [])] [tL 5]<|
 .ret [[.v 0],[.v 30, .v 29, .v 1, .v 27, .v 26, .v 25, .v 24, .v 23, .v 22, .v 21, .v 20, .v 19, .v 18, .v 17, .v 16, .v 15]])
def t110_5:T:=
.op (.row 7) [.v 15, .k (.int .i64 0)] [tI,tI,tL 1,tL 1,tL 5,tL 2,tL 7]<|
.call 111 [[.v 29],[.k (.int .i64 0)],[.v 11]] [[tL 2]]<|
.call 110 [[.v 46, .v 45, .v 44, .v 43, .v 42, .v 41, .v 40, .v 39, .v 38, .v 37, .v 36, .v 35, .v 34, .v 33, .v 32, .v 31],[.v 7, .v 6, .v 5, .v 4, .v 3, .v 2, .v 1],[.v 0],[.v 16, .v 15, .v 14, .v 13]] [[tL 5],[tL 10,tL 2,tL 4,tL 2,tI,tI,tL 3,tL 1,tI,tI,tL 1,tL 1,tL 5,tL 2,tL 7,tL 2]]<|
.op (.bin .neq) [.v 28, .k (.int .i64 (-1))] [tB]<|
.ite (.v 0) (
 .op (.len) [.v 17] [tI]<|
 .op (.bin .gtr) [.v 0, .k (.int .i64 0)] [tB]<|
 .ite (.v 0) (
 .op (.idx 5) [.v 19, .k (.int .i64 0)] [tI]<|
 .op (.at [0]) [.v 20, .v 0] [tI]<|
 .op (.bin .neq) [.v 0, .k (.int .i64 (-1))] [tB]<|
 .ite (.v 0) (
 .op (.idx 5) [.v 22, .k (.int .i64 0)] [tI]<|
 .op (.putp [] 1 5 true) [.v 23, .v 0, .v 35] [tL 5]<|
 .op (.app 5 false) [.v 43, .v 0] [tL 5]<|
 .op (.bin .add) [.v 34, .k (.int .i64 1)] [tI]<|
 .go 2 [.v 25, .v 24, .v 23, .v 22, .v 21, .v 20, .v 19, .v 18, .v 17, .v 16, .v 15, .v 14, .v 13, .v 12, .v 11, .v 10, .v 57, .v 56, .v 55, .v 54, .v 53, .v 52, .v 51, .v 50, .v 49, .v 48, .v 47, .v 46, .v 1, .v 44, .v 37, .v 36, .v 0]) (
 .op (.app 5 false) [.v 41, .v 22] [tL 5]<|
 .op (.bin .add) [.v 32, .k (.int .i64 1)] [tI]<|
 .go 2 [.v 23, .v 22, .v 21, .v 20, .v 19, .v 18, .v 17, .v 16, .v 15, .v 14, .v 13, .v 12, .v 11, .v 10, .v 9, .v 8, .v 55, .v 54, .v 53, .v 52, .v 51, .v 50, .v 49, .v 48, .v 47, .v 46, .v 45, .v 44, .v 1, .v 42, .v 35, .v 34, .v 0])) (
 .op (.app 5 false) [.v 38, .v 19] [tL 5]<|
 .op (.bin .add) [.v 29, .k (.int .i64 1)] [tI]<|
 .go 2 [.v 20, .v 19, .v 18, .v 17, .v 16, .v 15, .v 14, .v 13, .v 12, .v 11, .v 10, .v 9, .v 8, .v 7, .v 6, .v 5, .v 52, .v 51, .v 50, .v 49, .v 48, .v 47, .v 46, .v 45, .v 44, .v 43, .v 42, .v 41, .v 1, .v 39, .v 32, .v 31, .v 0])) (
 .op (.app 5 false) [.v 36, .v 17] [tL 5]<|
 .op (.bin .add) [.v 27, .k (.int .i64 1)] [tI]<|
 .go 2 [.v 18, .v 17, .v 16, .v 15, .v 14, .v 13, .v 12, .v 11, .v 10, .v 9, .v 8, .v 7, .v 6, .v 5, .v 4, .v 3, .v 50, .v 49, .v 48, .v 47, .v 46, .v 45, .v 44, .v 43, .v 42, .v 41, .v 40, .v 39, .v 1, .v 37, .v 30, .v 29, .v 0])
def lb110:List (Key×List (Nat×List Ty)):=[(.jn 33,[(0,[tL 10,tL 2,tL 4,tL 2,tI,tI,tL 3,tL 1,tI,tI,tL 1,tL 1,tL 5,tL 2,tL 7,tL 2]),(2,[tL 2]),(5,[tI,tI,tL 1,tL 1,tL 5,tL 2,tL 7]),(7,[tL 3,tL 3,tL 1,tL 3]),(9,[tI,tI,tS])]),(.head 1,[(0,[tL 10,tL 2,tL 4,tL 2,tI,tI,tL 3,tL 1,tI,tI,tL 1,tL 1,tL 5,tL 2,tL 7,tL 2]),(2,[tL 2]),(5,[tI,tI,tL 1,tL 1,tL 5,tL 2,tL 7]),(7,[tL 3,tL 3,tL 1,tL 3]),(10,[tI,tI,tS,tL 4,tL 5]),(54,[tL 1]),(55,[tI]),(56,[tI])]),(.head 3,[(0,[tL 10,tL 2,tL 4,tL 2,tI,tI,tL 3,tL 1,tI,tI,tL 1,tL 1,tL 5,tL 2,tL 7,tL 2]),(2,[tL 2]),(5,[tI,tI,tL 1,tL 1,tL 5,tL 2,tL 7]),(7,[tL 3,tL 3,tL 1,tL 3]),(13,[tL 5]),(15,[tB]),(147,[tM]),(148,[tI]),(149,[tI])]),(.head 5,[(0,[tL 10,tL 2,tL 4,tL 2,tI,tI,tL 3,tL 1,tI,tI,tL 1,tL 1,tL 5,tL 2,tL 7,tL 2]),(7,[tL 3,tL 3,tL 1,tL 3]),(22,[tL 2,tI,tL 3,tL 3]),(232,[tL 1]),(233,[tI]),(234,[tI])]),(.jn 165,[(0,[tL 10,tL 2,tL 4,tL 2,tI,tI,tL 3,tL 1,tI,tI,tL 1,tL 1,tL 5,tL 2,tL 7,tL 2]),(2,[tL 2]),(5,[tI,tI,tL 1,tL 1,tL 5,tL 2,tL 7]),(7,[tL 3,tL 3,tL 1,tL 3]),(13,[tL 5]),(15,[tB]),(17,[tL 3,tL 3,tL 1,tL 3]),(18,[tI]),(19,[tI]),(147,[tM]),(148,[tI]),(149,[tI])])]
theorem m110:mt 110 Tryz.f110 [] (List.range 90) [(21,0,[0],tI)] lb110=some (t110_0,[t110_1,t110_2,t110_3,t110_4,t110_5]):=by kernel_rfl
end Go.Own
