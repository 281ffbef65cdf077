/- TopIpis: what the runs are told. No condition. -/
import Derived.Test.YtlccaffnepiapaaGreatDoorSyE
import Derived.Test.YtlccaffnepiapaaGreatDoorRows
namespace Go.Proofs.YtlccaffnepiapaaGreatDoor.TopIpis
open Go.ChangeShapes Go.WideShapes Go.ChangeAt Go.RowKit Go.Sy
set_option linter.unusedVariables false
def ks : List LKd := [.int .u8, .int .u8]
noncomputable def sa_e : SA := Option.rec ⟨[], [], [], 0, 0, 0⟩ (fun x => x) (symK ks [] 0 4294967296 64)
noncomputable def mfl : List Nat := [9,27,54,71]
noncomputable def mt0 : List MT := []
noncomputable def me0 : MT := ⟨54, [.int .i64 (.lit 22)], .int .i64 (.lit 5)⟩
noncomputable def mt1 : List MT := me0 :: mt0
noncomputable def me1 : MT := ⟨27, [.int .u32 (.lit 1427)], .agg [.int .i64 (.lit 22), .int .i64 (.lit 11), .int .i64 (.lit 0), .int .i64 (.lit 0), .int .i64 (.lit 0), .int .i64 (.lit 4)]⟩
noncomputable def mt2 : List MT := me1 :: mt1
noncomputable def me2 : MT := ⟨9, [.agg [.int .i64 (.lit 22), .int .i64 (.lit 11), .int .i64 (.lit 0), .int .i64 (.lit 0), .int .i64 (.lit 0), .int .i64 (.lit 4)]], .tuple [.int .u32 (.lit 1427), .bool (.lit 1)]⟩
noncomputable def mt3 : List MT := me2 :: mt2
noncomputable def me3 : MT := ⟨54, [.int .i64 (.lit 1)], .int .i64 (.lit 1)⟩
noncomputable def mt4 : List MT := me3 :: mt3
noncomputable def me4 : MT := ⟨27, [.int .u32 (.lit 7559351)], .agg [.int .i64 (.lit 1), .int .i64 (.lit 17), .int .i64 (.lit 0), .int .i64 (.lit 0), .int .i64 (.lit 7557120), .int .i64 (.lit 4)]⟩
noncomputable def mt5 : List MT := me4 :: mt4
noncomputable def me5 : MT := ⟨9, [.agg [.int .i64 (.lit 1), .int .i64 (.lit 17), .int .i64 (.lit 0), .int .i64 (.lit 0), .int .i64 (.lit 7557120), .int .i64 (.lit 4)]], .tuple [.int .u32 (.lit 7559351), .bool (.lit 1)]⟩
noncomputable def mt6 : List MT := me5 :: mt5
noncomputable def me6 : MT := ⟨54, [.int .i64 (.lit 41)], .int .i64 (.lit 7)⟩
noncomputable def mt7 : List MT := me6 :: mt6
noncomputable def me7 : MT := ⟨27, [.int .u32 (.lit 77105307)], .agg [.int .i64 (.lit 41), .int .i64 (.lit 17), .int .i64 (.lit 17), .int .i64 (.lit 0), .int .i64 (.lit 73), .int .i64 (.lit 4)]⟩
noncomputable def mt8 : List MT := me7 :: mt7
noncomputable def me8 : MT := ⟨9, [.agg [.int .i64 (.lit 41), .int .i64 (.lit 17), .int .i64 (.lit 17), .int .i64 (.lit 0), .int .i64 (.lit 73), .int .i64 (.lit 4)]], .tuple [.int .u32 (.lit 77105307), .bool (.lit 1)]⟩
noncomputable def mt9 : List MT := me8 :: mt8
noncomputable def me9 : MT := ⟨71, [.int .u32 (.lit 1427)], .agg [.int .i64 (.lit 22), .int .i64 (.lit 11), .int .i64 (.lit 0), .int .i64 (.lit 0), .int .i64 (.lit 0), .int .i64 (.lit 4)]⟩
noncomputable def mt10 : List MT := me9 :: mt9
noncomputable def me10 : MT := ⟨71, [.int .u32 (.lit 7559351)], .agg [.int .i64 (.lit 1), .int .i64 (.lit 17), .int .i64 (.lit 0), .int .i64 (.lit 0), .int .i64 (.lit 7557120), .int .i64 (.lit 4)]⟩
noncomputable def mt11 : List MT := me10 :: mt10
noncomputable def me11 : MT := ⟨71, [.int .u32 (.lit 77105307)], .agg [.int .i64 (.lit 41), .int .i64 (.lit 17), .int .i64 (.lit 17), .int .i64 (.lit 0), .int .i64 (.lit 73), .int .i64 (.lit 4)]⟩
noncomputable def mt12 : List MT := me11 :: mt11
noncomputable def me12 : MT := ⟨27, [.int .u32 (.lit 115)], .agg [.int .i64 (.lit 65), .int .i64 (.lit 0), .int .i64 (.lit 0), .int .i64 (.lit 0), .int .i64 (.lit 0), .int .i64 (.lit 4)]⟩
noncomputable def mt13 : List MT := me12 :: mt12
noncomputable def me13 : MT := ⟨71, [.int .u32 (.lit 115)], .agg [.int .i64 (.lit 65), .int .i64 (.lit 0), .int .i64 (.lit 0), .int .i64 (.lit 0), .int .i64 (.lit 0), .int .i64 (.lit 4)]⟩
noncomputable def mt14 : List MT := me13 :: mt13
noncomputable def me14 : MT := ⟨54, [.int .i64 (.lit 65)], .int .i64 (.lit 11)⟩
noncomputable def mt15 : List MT := me14 :: mt14
noncomputable def mtl : List MT := mt15
noncomputable def ms0 : List SM := []
noncomputable def se0 : SM := ⟨9, [8], [.agg [.int .i64 (.lit 22), .int .i64 (.lit 10), .int .i64 (.lit 0), .int .i64 (.lit 0), .int .i64 (.var 0 8), .int .i64 (.lit 4)]], .tuple [.int .u32 (.bin .or 64 (.lit 1299) (.bin .shl 64 (.var 0 8) (.lit 20))), .bool (.lit 1)]⟩
noncomputable def ms1 : List SM := se0 :: ms0
noncomputable def se1 : SM := ⟨27, [8], [.int .u32 (.bin .or 64 (.lit 1299) (.bin .shl 64 (.var 0 8) (.lit 20)))], .agg [.int .i64 (.lit 22), .int .i64 (.lit 10), .int .i64 (.lit 0), .int .i64 (.lit 0), .int .i64 (.bin .sar 64 (.bin .shl 64 (.var 0 8) (.lit 52)) (.lit 52)), .int .i64 (.lit 4)]⟩
noncomputable def ms2 : List SM := se1 :: ms1
noncomputable def se2 : SM := ⟨71, [8], [.int .u32 (.bin .or 64 (.lit 1299) (.bin .shl 64 (.var 0 8) (.lit 20)))], .agg [.int .i64 (.lit 22), .int .i64 (.lit 10), .int .i64 (.lit 0), .int .i64 (.lit 0), .int .i64 (.bin .sar 64 (.bin .shl 64 (.var 0 8) (.lit 52)) (.lit 52)), .int .i64 (.lit 4)]⟩
noncomputable def ms3 : List SM := se2 :: ms2
noncomputable def msl : List SM := ms3
noncomputable def tab0 : Tab := ⟨6, .u64, [1, 10, 100, 1000, 10000, 100000, 1000000, 10000000, 100000000, 1000000000, 10000000000, 100000000000, 1000000000000, 10000000000000, 100000000000000, 1000000000000000, 10000000000000000, 100000000000000000, 1000000000000000000, 10000000000000000000]⟩
noncomputable def tab1 : Tab := ⟨5, .u8, [0, 1, 56, 2, 57, 49, 28, 3, 61, 58, 42, 50, 38, 29, 17, 4, 62, 47, 59, 36, 45, 43, 51, 22, 53, 39, 33, 30, 24, 18, 12, 5, 63, 55, 48, 27, 60, 41, 37, 16, 46, 35, 44, 21, 52, 32, 23, 11, 54, 26, 40, 15, 34, 20, 31, 10, 25, 14, 19, 9, 13, 8, 7, 6]⟩
noncomputable def gts : List Tab := [tab0, tab1]
noncomputable def anse4 : Ans := lawRunB (envL Tryz.prog 300 false [] [] [] [] [] [] [8] gts mfl mtl msl) 200 3 [] [.un .bnot 1 (.bin .eq 64 (.bin .and 64 (.var 0 8) (.lit 7)) (.lit 0)), .un .bnot 1 (.bin .eq 64 (.bin .and 64 (.var 0 8) (.lit 7)) (.lit 1)), .un .bnot 1 (.bin .eq 64 (.bin .and 64 (.var 0 8) (.lit 7)) (.lit 2)), .un .bnot 1 (.bin .eq 64 (.bin .and 64 (.var 0 8) (.lit 7)) (.lit 3)), .bin .eq 64 (.bin .and 64 (.var 0 8) (.lit 7)) (.lit 4)] sa_e.i sa_e.obs (groupS [none, none] sa_e.l)
noncomputable def anse7 : Ans := lawRunB (envL Tryz.prog 300 false [] [] [] [] [] [] [8] gts mfl mtl msl) 200 3 [] [.un .bnot 1 (.bin .eq 64 (.bin .and 64 (.var 0 8) (.lit 7)) (.lit 0)), .un .bnot 1 (.bin .eq 64 (.bin .and 64 (.var 0 8) (.lit 7)) (.lit 1)), .un .bnot 1 (.bin .eq 64 (.bin .and 64 (.var 0 8) (.lit 7)) (.lit 2)), .un .bnot 1 (.bin .eq 64 (.bin .and 64 (.var 0 8) (.lit 7)) (.lit 3)), .un .bnot 1 (.bin .eq 64 (.bin .and 64 (.var 0 8) (.lit 7)) (.lit 4)), .bin .eq 64 (.bin .and 64 (.var 0 8) (.lit 7)) (.lit 5)] sa_e.i sa_e.obs (groupS [none, none] sa_e.l)
noncomputable def anse12 : Ans := lawRunB (envL Tryz.prog 300 false [] [] [] [] [] [] [8] gts mfl mtl msl) 200 3 [] [.un .bnot 1 (.bin .eq 64 (.bin .and 64 (.var 0 8) (.lit 7)) (.lit 0)), .un .bnot 1 (.bin .eq 64 (.bin .and 64 (.var 0 8) (.lit 7)) (.lit 1)), .un .bnot 1 (.bin .eq 64 (.bin .and 64 (.var 0 8) (.lit 7)) (.lit 2)), .un .bnot 1 (.bin .eq 64 (.bin .and 64 (.var 0 8) (.lit 7)) (.lit 3)), .un .bnot 1 (.bin .eq 64 (.bin .and 64 (.var 0 8) (.lit 7)) (.lit 4)), .un .bnot 1 (.bin .eq 64 (.bin .and 64 (.var 0 8) (.lit 7)) (.lit 5)), .bin .eq 64 (.bin .and 64 (.var 0 8) (.lit 7)) (.lit 6)] sa_e.i sa_e.obs (groupS [none, none] sa_e.l)
noncomputable def anse19 : Ans := lawRunB (envL Tryz.prog 300 false [] [] [] [] [] [] [8] gts mfl mtl msl) 200 3 [] [.un .bnot 1 (.bin .eq 64 (.bin .and 64 (.var 0 8) (.lit 7)) (.lit 0)), .un .bnot 1 (.bin .eq 64 (.bin .and 64 (.var 0 8) (.lit 7)) (.lit 1)), .un .bnot 1 (.bin .eq 64 (.bin .and 64 (.var 0 8) (.lit 7)) (.lit 2)), .un .bnot 1 (.bin .eq 64 (.bin .and 64 (.var 0 8) (.lit 7)) (.lit 3)), .un .bnot 1 (.bin .eq 64 (.bin .and 64 (.var 0 8) (.lit 7)) (.lit 4)), .un .bnot 1 (.bin .eq 64 (.bin .and 64 (.var 0 8) (.lit 7)) (.lit 5)), .un .bnot 1 (.bin .eq 64 (.bin .and 64 (.var 0 8) (.lit 7)) (.lit 6)), .bin .eq 64 (.bin .and 64 (.var 0 8) (.lit 7)) (.lit 7)] sa_e.i sa_e.obs (groupS [none, none] sa_e.l)
end Go.Proofs.YtlccaffnepiapaaGreatDoor.TopIpis
