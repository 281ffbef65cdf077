/- TopUsers: what the runs are told. No condition. -/
import Derived.Test.YtlccaffnepiapaaGreatDoorSyE
import Derived.Test.YtlccaffnepiapaaGreatDoorRows
namespace Go.Proofs.YtlccaffnepiapaaGreatDoor.TopUsers
open Go.ChangeShapes Go.WideShapes Go.ChangeAt Go.RowKit Go.Sy
set_option linter.unusedVariables false
def ks : List LKd := [.bool, .int .u16]
noncomputable def sa_e : SA := Option.rec ⟨[], [], [], 0, 0, 0⟩ (fun x => x) (symK ks [] 0 4294967296 64)
noncomputable def mfl : List Nat := [9,27,54,71]
noncomputable def mt0 : List MT := []
noncomputable def me0 : MT := ⟨54, [.int .i64 (.lit 2)], .int .i64 (.lit 1)⟩
noncomputable def mt1 : List MT := me0 :: mt0
noncomputable def me1 : MT := ⟨27, [.int .u32 (.lit 1175)], .agg [.int .i64 (.lit 2), .int .i64 (.lit 9), .int .i64 (.lit 0), .int .i64 (.lit 0), .int .i64 (.lit 0), .int .i64 (.lit 4)]⟩
noncomputable def mt2 : List MT := me1 :: mt1
noncomputable def me2 : MT := ⟨9, [.agg [.int .i64 (.lit 2), .int .i64 (.lit 9), .int .i64 (.lit 0), .int .i64 (.lit 0), .int .i64 (.lit 0), .int .i64 (.lit 4)]], .tuple [.int .u32 (.lit 1175), .bool (.lit 1)]⟩
noncomputable def mt3 : List MT := me2 :: mt2
noncomputable def me3 : MT := ⟨54, [.int .i64 (.lit 70)], .int .i64 (.lit 12)⟩
noncomputable def mt4 : List MT := me3 :: mt3
noncomputable def me4 : MT := ⟨27, [.int .u32 (.lit 273977459)], .agg [.int .i64 (.lit 70), .int .i64 (.lit 0), .int .i64 (.lit 9), .int .i64 (.lit 0), .int .i64 (.lit 261), .int .i64 (.lit 4)]⟩
noncomputable def mt5 : List MT := me4 :: mt4
noncomputable def me5 : MT := ⟨9, [.agg [.int .i64 (.lit 70), .int .i64 (.lit 0), .int .i64 (.lit 9), .int .i64 (.lit 0), .int .i64 (.lit 261), .int .i64 (.lit 4)]], .tuple [.int .u32 (.lit 273977459), .bool (.lit 1)]⟩
noncomputable def mt6 : List MT := me5 :: mt5
noncomputable def me6 : MT := ⟨54, [.int .i64 (.lit 22)], .int .i64 (.lit 5)⟩
noncomputable def mt7 : List MT := me6 :: mt6
noncomputable def me7 : MT := ⟨27, [.int .u32 (.lit 21267603)], .agg [.int .i64 (.lit 22), .int .i64 (.lit 9), .int .i64 (.lit 9), .int .i64 (.lit 0), .int .i64 (.lit 20), .int .i64 (.lit 4)]⟩
noncomputable def mt8 : List MT := me7 :: mt7
noncomputable def me8 : MT := ⟨9, [.agg [.int .i64 (.lit 22), .int .i64 (.lit 9), .int .i64 (.lit 9), .int .i64 (.lit 0), .int .i64 (.lit 20), .int .i64 (.lit 4)]], .tuple [.int .u32 (.lit 21267603), .bool (.lit 1)]⟩
noncomputable def mt9 : List MT := me8 :: mt8
noncomputable def me9 : MT := ⟨27, [.int .u32 (.lit 336892019)], .agg [.int .i64 (.lit 70), .int .i64 (.lit 0), .int .i64 (.lit 9), .int .i64 (.lit 0), .int .i64 (.lit 321), .int .i64 (.lit 4)]⟩
noncomputable def mt10 : List MT := me9 :: mt9
noncomputable def me10 : MT := ⟨9, [.agg [.int .i64 (.lit 70), .int .i64 (.lit 0), .int .i64 (.lit 9), .int .i64 (.lit 0), .int .i64 (.lit 321), .int .i64 (.lit 4)]], .tuple [.int .u32 (.lit 336892019), .bool (.lit 1)]⟩
noncomputable def mt11 : List MT := me10 :: mt10
noncomputable def me11 : MT := ⟨54, [.int .i64 (.lit 67)], .int .i64 (.lit 11)⟩
noncomputable def mt12 : List MT := me11 :: mt11
noncomputable def me12 : MT := ⟨27, [.int .u32 (.lit 270532723)], .agg [.int .i64 (.lit 67), .int .i64 (.lit 0), .int .i64 (.lit 0), .int .i64 (.lit 0), .int .i64 (.lit 0), .int .i64 (.lit 4)]⟩
noncomputable def mt13 : List MT := me12 :: mt12
noncomputable def me13 : MT := ⟨9, [.agg [.int .i64 (.lit 67), .int .i64 (.lit 0), .int .i64 (.lit 0), .int .i64 (.lit 0), .int .i64 (.lit 0), .int .i64 (.lit 4)]], .tuple [.int .u32 (.lit 270532723), .bool (.lit 1)]⟩
noncomputable def mt14 : List MT := me13 :: mt13
noncomputable def me14 : MT := ⟨54, [.int .i64 (.lit 65)], .int .i64 (.lit 11)⟩
noncomputable def mt15 : List MT := me14 :: mt14
noncomputable def me15 : MT := ⟨27, [.int .u32 (.lit 115)], .agg [.int .i64 (.lit 65), .int .i64 (.lit 0), .int .i64 (.lit 0), .int .i64 (.lit 0), .int .i64 (.lit 0), .int .i64 (.lit 4)]⟩
noncomputable def mt16 : List MT := me15 :: mt15
noncomputable def me16 : MT := ⟨9, [.agg [.int .i64 (.lit 65), .int .i64 (.lit 0), .int .i64 (.lit 0), .int .i64 (.lit 0), .int .i64 (.lit 0), .int .i64 (.lit 4)]], .tuple [.int .u32 (.lit 115), .bool (.lit 1)]⟩
noncomputable def mt17 : List MT := me16 :: mt16
noncomputable def me17 : MT := ⟨71, [.int .u32 (.lit 1175)], .agg [.int .i64 (.lit 2), .int .i64 (.lit 9), .int .i64 (.lit 0), .int .i64 (.lit 0), .int .i64 (.lit 0), .int .i64 (.lit 4)]⟩
noncomputable def mt18 : List MT := me17 :: mt17
noncomputable def me18 : MT := ⟨71, [.int .u32 (.lit 273977459)], .agg [.int .i64 (.lit 70), .int .i64 (.lit 0), .int .i64 (.lit 9), .int .i64 (.lit 0), .int .i64 (.lit 261), .int .i64 (.lit 4)]⟩
noncomputable def mt19 : List MT := me18 :: mt18
noncomputable def me19 : MT := ⟨71, [.int .u32 (.lit 21267603)], .agg [.int .i64 (.lit 22), .int .i64 (.lit 9), .int .i64 (.lit 9), .int .i64 (.lit 0), .int .i64 (.lit 20), .int .i64 (.lit 4)]⟩
noncomputable def mt20 : List MT := me19 :: mt19
noncomputable def me20 : MT := ⟨71, [.int .u32 (.lit 336892019)], .agg [.int .i64 (.lit 70), .int .i64 (.lit 0), .int .i64 (.lit 9), .int .i64 (.lit 0), .int .i64 (.lit 321), .int .i64 (.lit 4)]⟩
noncomputable def mt21 : List MT := me20 :: mt20
noncomputable def me21 : MT := ⟨71, [.int .u32 (.lit 270532723)], .agg [.int .i64 (.lit 67), .int .i64 (.lit 0), .int .i64 (.lit 0), .int .i64 (.lit 0), .int .i64 (.lit 0), .int .i64 (.lit 4)]⟩
noncomputable def mt22 : List MT := me21 :: mt21
noncomputable def me22 : MT := ⟨71, [.int .u32 (.lit 115)], .agg [.int .i64 (.lit 65), .int .i64 (.lit 0), .int .i64 (.lit 0), .int .i64 (.lit 0), .int .i64 (.lit 0), .int .i64 (.lit 4)]⟩
noncomputable def mt23 : List MT := me22 :: mt22
noncomputable def me23 : MT := ⟨54, [.int .i64 (.lit 71)], .int .i64 (.lit 12)⟩
noncomputable def mt24 : List MT := me23 :: mt23
noncomputable def me24 : MT := ⟨71, [.int .u32 (.lit 0)], .agg [.int .i64 (.lit 0), .int .i64 (.lit 0), .int .i64 (.lit 0), .int .i64 (.lit 0), .int .i64 (.lit 0), .int .i64 (.lit 2)]⟩
noncomputable def mt25 : List MT := me24 :: mt24
noncomputable def me25 : MT := ⟨54, [.int .i64 (.lit 0)], .int .i64 (.lit 0)⟩
noncomputable def mt26 : List MT := me25 :: mt25
noncomputable def mtl : List MT := mt26
noncomputable def tab0 : Tab := ⟨6, .u64, [1, 10, 100, 1000, 10000, 100000, 1000000, 10000000, 100000000, 1000000000, 10000000000, 100000000000, 1000000000000, 10000000000000, 100000000000000, 1000000000000000, 10000000000000000, 100000000000000000, 1000000000000000000, 10000000000000000000]⟩
noncomputable def tab1 : Tab := ⟨5, .u8, [0, 1, 56, 2, 57, 49, 28, 3, 61, 58, 42, 50, 38, 29, 17, 4, 62, 47, 59, 36, 45, 43, 51, 22, 53, 39, 33, 30, 24, 18, 12, 5, 63, 55, 48, 27, 60, 41, 37, 16, 46, 35, 44, 21, 52, 32, 23, 11, 54, 26, 40, 15, 34, 20, 31, 10, 25, 14, 19, 9, 13, 8, 7, 6]⟩
noncomputable def gts : List Tab := [tab0, tab1]
end Go.Proofs.YtlccaffnepiapaaGreatDoor.TopUsers
