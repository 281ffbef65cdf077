/- TopDivides: what the runs are told. No condition. -/
import Derived.Test.YtlccaffnepiapaaGreatDoorSyE
import Derived.Test.YtlccaffnepiapaaGreatDoorRows
namespace Go.Proofs.YtlccaffnepiapaaGreatDoor.TopDivides
open Go.ChangeShapes Go.WideShapes Go.ChangeAt Go.RowKit Go.Sy
set_option linter.unusedVariables false
def ks : List LKd := [.int .i32, .int .i32]
noncomputable def sa_e : SA := Option.rec ⟨[], [], [], 0, 0, 0⟩ (fun x => x) (symK ks [] 0 4294967296 64)
noncomputable def mfl : List Nat := [9,27,54,71]
noncomputable def mt0 : List MT := []
noncomputable def me0 : MT := ⟨54, [.int .i64 (.lit 54)], .int .i64 (.lit 9)⟩
noncomputable def mt1 : List MT := me0 :: mt0
noncomputable def me1 : MT := ⟨27, [.int .u32 (.lit 45434419)], .agg [.int .i64 (.lit 54), .int .i64 (.lit 12), .int .i64 (.lit 10), .int .i64 (.lit 11), .int .i64 (.lit 0), .int .i64 (.lit 4)]⟩
noncomputable def mt2 : List MT := me1 :: mt1
noncomputable def me2 : MT := ⟨9, [.agg [.int .i64 (.lit 54), .int .i64 (.lit 12), .int .i64 (.lit 10), .int .i64 (.lit 11), .int .i64 (.lit 0), .int .i64 (.lit 4)]], .tuple [.int .u32 (.lit 45434419), .bool (.lit 1)]⟩
noncomputable def mt3 : List MT := me2 :: mt2
noncomputable def me3 : MT := ⟨54, [.int .i64 (.lit 56)], .int .i64 (.lit 9)⟩
noncomputable def mt4 : List MT := me3 :: mt3
noncomputable def me4 : MT := ⟨27, [.int .u32 (.lit 45442739)], .agg [.int .i64 (.lit 56), .int .i64 (.lit 13), .int .i64 (.lit 10), .int .i64 (.lit 11), .int .i64 (.lit 0), .int .i64 (.lit 4)]⟩
noncomputable def mt5 : List MT := me4 :: mt4
noncomputable def me5 : MT := ⟨9, [.agg [.int .i64 (.lit 56), .int .i64 (.lit 13), .int .i64 (.lit 10), .int .i64 (.lit 11), .int .i64 (.lit 0), .int .i64 (.lit 4)]], .tuple [.int .u32 (.lit 45442739), .bool (.lit 1)]⟩
noncomputable def mt6 : List MT := me5 :: mt5
noncomputable def me6 : MT := ⟨54, [.int .i64 (.lit 50)], .int .i64 (.lit 9)⟩
noncomputable def mt7 : List MT := me6 :: mt6
noncomputable def me7 : MT := ⟨27, [.int .u32 (.lit 45483827)], .agg [.int .i64 (.lit 50), .int .i64 (.lit 14), .int .i64 (.lit 12), .int .i64 (.lit 11), .int .i64 (.lit 0), .int .i64 (.lit 4)]⟩
noncomputable def mt8 : List MT := me7 :: mt7
noncomputable def me8 : MT := ⟨9, [.agg [.int .i64 (.lit 50), .int .i64 (.lit 14), .int .i64 (.lit 12), .int .i64 (.lit 11), .int .i64 (.lit 0), .int .i64 (.lit 4)]], .tuple [.int .u32 (.lit 45483827), .bool (.lit 1)]⟩
noncomputable def mt9 : List MT := me8 :: mt8
noncomputable def me9 : MT := ⟨9, [.agg [.int .i64 (.lit 31), .int .i64 (.lit 14), .int .i64 (.lit 14), .int .i64 (.lit 13), .int .i64 (.lit 0), .int .i64 (.lit 4)]], .tuple [.int .u32 (.lit 14092083), .bool (.lit 1)]⟩
noncomputable def mt10 : List MT := me9 :: mt9
noncomputable def me10 : MT := ⟨71, [.int .u32 (.lit 45434419)], .agg [.int .i64 (.lit 54), .int .i64 (.lit 12), .int .i64 (.lit 10), .int .i64 (.lit 11), .int .i64 (.lit 0), .int .i64 (.lit 4)]⟩
noncomputable def mt11 : List MT := me10 :: mt10
noncomputable def me11 : MT := ⟨71, [.int .u32 (.lit 45442739)], .agg [.int .i64 (.lit 56), .int .i64 (.lit 13), .int .i64 (.lit 10), .int .i64 (.lit 11), .int .i64 (.lit 0), .int .i64 (.lit 4)]⟩
noncomputable def mt12 : List MT := me11 :: mt11
noncomputable def me12 : MT := ⟨71, [.int .u32 (.lit 45483827)], .agg [.int .i64 (.lit 50), .int .i64 (.lit 14), .int .i64 (.lit 12), .int .i64 (.lit 11), .int .i64 (.lit 0), .int .i64 (.lit 4)]⟩
noncomputable def mt13 : List MT := me12 :: mt12
noncomputable def me13 : MT := ⟨71, [.int .u32 (.lit 14092083)], .agg [.int .i64 (.lit 31), .int .i64 (.lit 14), .int .i64 (.lit 14), .int .i64 (.lit 13), .int .i64 (.lit 0), .int .i64 (.lit 4)]⟩
noncomputable def mt14 : List MT := me13 :: mt13
noncomputable def me14 : MT := ⟨54, [.int .i64 (.lit 1)], .int .i64 (.lit 1)⟩
noncomputable def mt15 : List MT := me14 :: mt14
noncomputable def me15 : MT := ⟨54, [.int .i64 (.lit 41)], .int .i64 (.lit 7)⟩
noncomputable def mt16 : List MT := me15 :: mt15
noncomputable def me16 : MT := ⟨54, [.int .i64 (.lit 31)], .int .i64 (.lit 6)⟩
noncomputable def mt17 : List MT := me16 :: mt16
noncomputable def mtl : List MT := mt17
noncomputable def ms0 : List SM := []
noncomputable def se0 : SM := ⟨9, [32], [.agg [.int .i64 (.lit 1), .int .i64 (.lit 10), .int .i64 (.lit 0), .int .i64 (.lit 0), .int .i64 (.un (.sx 32) 64 (.bin .and 32 (.var 0 32) (.lit 4294963200))), .int .i64 (.lit 4)]], .tuple [.int .u32 (.bin .or 64 (.lit 1335) (.bin .shl 64 (.bin .and 32 (.bin .shr 32 (.var 0 32) (.lit 12)) (.lit 1048575)) (.lit 12))), .bool (.lit 1)]⟩
noncomputable def ms1 : List SM := se0 :: ms0
noncomputable def se1 : SM := ⟨9, [32], [.agg [.int .i64 (.lit 41), .int .i64 (.lit 10), .int .i64 (.lit 10), .int .i64 (.lit 0), .int .i64 (.bin .sar 64 (.bin .shl 64 (.un (.sx 32) 64 (.var 0 32)) (.lit 52)) (.lit 52)), .int .i64 (.lit 4)]], .tuple [.int .u32 (.bin .or 64 (.lit 328987) (.bin .shl 64 (.bin .and 32 (.var 0 32) (.lit 4095)) (.lit 20))), .bool (.lit 1)]⟩
noncomputable def ms2 : List SM := se1 :: ms1
noncomputable def se2 : SM := ⟨9, [32], [.agg [.int .i64 (.lit 1), .int .i64 (.lit 11), .int .i64 (.lit 0), .int .i64 (.lit 0), .int .i64 (.un (.sx 32) 64 (.bin .and 32 (.var 0 32) (.lit 4294963200))), .int .i64 (.lit 4)]], .tuple [.int .u32 (.bin .or 64 (.lit 1463) (.bin .shl 64 (.bin .and 32 (.bin .shr 32 (.var 0 32) (.lit 12)) (.lit 1048575)) (.lit 12))), .bool (.lit 1)]⟩
noncomputable def ms3 : List SM := se2 :: ms2
noncomputable def se3 : SM := ⟨9, [32], [.agg [.int .i64 (.lit 41), .int .i64 (.lit 11), .int .i64 (.lit 11), .int .i64 (.lit 0), .int .i64 (.bin .sar 64 (.bin .shl 64 (.un (.sx 32) 64 (.var 0 32)) (.lit 52)) (.lit 52)), .int .i64 (.lit 4)]], .tuple [.int .u32 (.bin .or 64 (.lit 361883) (.bin .shl 64 (.bin .and 32 (.var 0 32) (.lit 4095)) (.lit 20))), .bool (.lit 1)]⟩
noncomputable def ms4 : List SM := se3 :: ms3
noncomputable def se4 : SM := ⟨27, [32], [.int .u32 (.bin .or 32 (.bin .shl 32 (.un .tr 32 (.bin .or 64 (.bin .or 64 (.lit 0) (.bin .shl 64 (.un .tr 8 (.bin .shr 32 (.bin .or 64 (.lit 1335) (.bin .shl 64 (.bin .and 32 (.bin .shr 32 (.var 0 32) (.lit 12)) (.lit 1048575)) (.lit 12))) (.lit 16))) (.lit 0))) (.bin .shl 64 (.un .tr 8 (.bin .shr 32 (.bin .or 64 (.lit 1335) (.bin .shl 64 (.bin .and 32 (.bin .shr 32 (.var 0 32) (.lit 12)) (.lit 1048575)) (.lit 12))) (.lit 24))) (.lit 8)))) (.lit 16)) (.un .tr 32 (.bin .or 64 (.lit 55) (.bin .shl 64 (.un .tr 8 (.bin .shr 32 (.bin .or 64 (.lit 1335) (.bin .shl 64 (.bin .and 32 (.bin .shr 32 (.var 0 32) (.lit 12)) (.lit 1048575)) (.lit 12))) (.lit 8))) (.lit 8)))))], .agg [.int .i64 (.lit 1), .int .i64 (.lit 10), .int .i64 (.lit 0), .int .i64 (.lit 0), .int .i64 (.bin .sar 64 (.bin .shl 64 (.bin .shl 64 (.bin .and 32 (.bin .shr 32 (.var 0 32) (.lit 12)) (.lit 1048575)) (.lit 12)) (.lit 32)) (.lit 32)), .int .i64 (.lit 4)]⟩
noncomputable def ms5 : List SM := se4 :: ms4
noncomputable def se5 : SM := ⟨71, [32], [.int .u32 (.bin .or 32 (.bin .shl 32 (.un .tr 32 (.bin .or 64 (.bin .or 64 (.lit 0) (.bin .shl 64 (.un .tr 8 (.bin .shr 32 (.bin .or 64 (.lit 1335) (.bin .shl 64 (.bin .and 32 (.bin .shr 32 (.var 0 32) (.lit 12)) (.lit 1048575)) (.lit 12))) (.lit 16))) (.lit 0))) (.bin .shl 64 (.un .tr 8 (.bin .shr 32 (.bin .or 64 (.lit 1335) (.bin .shl 64 (.bin .and 32 (.bin .shr 32 (.var 0 32) (.lit 12)) (.lit 1048575)) (.lit 12))) (.lit 24))) (.lit 8)))) (.lit 16)) (.un .tr 32 (.bin .or 64 (.lit 55) (.bin .shl 64 (.un .tr 8 (.bin .shr 32 (.bin .or 64 (.lit 1335) (.bin .shl 64 (.bin .and 32 (.bin .shr 32 (.var 0 32) (.lit 12)) (.lit 1048575)) (.lit 12))) (.lit 8))) (.lit 8)))))], .agg [.int .i64 (.lit 1), .int .i64 (.lit 10), .int .i64 (.lit 0), .int .i64 (.lit 0), .int .i64 (.bin .sar 64 (.bin .shl 64 (.bin .shl 64 (.bin .and 32 (.bin .shr 32 (.var 0 32) (.lit 12)) (.lit 1048575)) (.lit 12)) (.lit 32)) (.lit 32)), .int .i64 (.lit 4)]⟩
noncomputable def ms6 : List SM := se5 :: ms5
noncomputable def se6 : SM := ⟨27, [32], [.int .u32 (.bin .or 64 (.lit 328987) (.bin .shl 64 (.bin .and 32 (.var 0 32) (.lit 4095)) (.lit 20)))], .agg [.int .i64 (.lit 41), .int .i64 (.lit 10), .int .i64 (.lit 10), .int .i64 (.lit 0), .int .i64 (.bin .sar 64 (.bin .shl 64 (.bin .and 32 (.var 0 32) (.lit 4095)) (.lit 52)) (.lit 52)), .int .i64 (.lit 4)]⟩
noncomputable def ms7 : List SM := se6 :: ms6
noncomputable def se7 : SM := ⟨71, [32], [.int .u32 (.bin .or 64 (.lit 328987) (.bin .shl 64 (.bin .and 32 (.var 0 32) (.lit 4095)) (.lit 20)))], .agg [.int .i64 (.lit 41), .int .i64 (.lit 10), .int .i64 (.lit 10), .int .i64 (.lit 0), .int .i64 (.bin .sar 64 (.bin .shl 64 (.bin .and 32 (.var 0 32) (.lit 4095)) (.lit 52)) (.lit 52)), .int .i64 (.lit 4)]⟩
noncomputable def ms8 : List SM := se7 :: ms7
noncomputable def se8 : SM := ⟨27, [32], [.int .u32 (.bin .or 32 (.bin .shl 32 (.un .tr 32 (.bin .or 64 (.bin .or 64 (.lit 0) (.bin .shl 64 (.un .tr 8 (.bin .shr 32 (.bin .or 64 (.lit 1463) (.bin .shl 64 (.bin .and 32 (.bin .shr 32 (.var 0 32) (.lit 12)) (.lit 1048575)) (.lit 12))) (.lit 16))) (.lit 0))) (.bin .shl 64 (.un .tr 8 (.bin .shr 32 (.bin .or 64 (.lit 1463) (.bin .shl 64 (.bin .and 32 (.bin .shr 32 (.var 0 32) (.lit 12)) (.lit 1048575)) (.lit 12))) (.lit 24))) (.lit 8)))) (.lit 16)) (.un .tr 32 (.bin .or 64 (.lit 183) (.bin .shl 64 (.un .tr 8 (.bin .shr 32 (.bin .or 64 (.lit 1463) (.bin .shl 64 (.bin .and 32 (.bin .shr 32 (.var 0 32) (.lit 12)) (.lit 1048575)) (.lit 12))) (.lit 8))) (.lit 8)))))], .agg [.int .i64 (.lit 1), .int .i64 (.lit 11), .int .i64 (.lit 0), .int .i64 (.lit 0), .int .i64 (.bin .sar 64 (.bin .shl 64 (.bin .shl 64 (.bin .and 32 (.bin .shr 32 (.var 0 32) (.lit 12)) (.lit 1048575)) (.lit 12)) (.lit 32)) (.lit 32)), .int .i64 (.lit 4)]⟩
noncomputable def ms9 : List SM := se8 :: ms8
noncomputable def se9 : SM := ⟨71, [32], [.int .u32 (.bin .or 32 (.bin .shl 32 (.un .tr 32 (.bin .or 64 (.bin .or 64 (.lit 0) (.bin .shl 64 (.un .tr 8 (.bin .shr 32 (.bin .or 64 (.lit 1463) (.bin .shl 64 (.bin .and 32 (.bin .shr 32 (.var 0 32) (.lit 12)) (.lit 1048575)) (.lit 12))) (.lit 16))) (.lit 0))) (.bin .shl 64 (.un .tr 8 (.bin .shr 32 (.bin .or 64 (.lit 1463) (.bin .shl 64 (.bin .and 32 (.bin .shr 32 (.var 0 32) (.lit 12)) (.lit 1048575)) (.lit 12))) (.lit 24))) (.lit 8)))) (.lit 16)) (.un .tr 32 (.bin .or 64 (.lit 183) (.bin .shl 64 (.un .tr 8 (.bin .shr 32 (.bin .or 64 (.lit 1463) (.bin .shl 64 (.bin .and 32 (.bin .shr 32 (.var 0 32) (.lit 12)) (.lit 1048575)) (.lit 12))) (.lit 8))) (.lit 8)))))], .agg [.int .i64 (.lit 1), .int .i64 (.lit 11), .int .i64 (.lit 0), .int .i64 (.lit 0), .int .i64 (.bin .sar 64 (.bin .shl 64 (.bin .shl 64 (.bin .and 32 (.bin .shr 32 (.var 0 32) (.lit 12)) (.lit 1048575)) (.lit 12)) (.lit 32)) (.lit 32)), .int .i64 (.lit 4)]⟩
noncomputable def ms10 : List SM := se9 :: ms9
noncomputable def se10 : SM := ⟨27, [32], [.int .u32 (.bin .or 64 (.lit 361883) (.bin .shl 64 (.bin .and 32 (.var 0 32) (.lit 4095)) (.lit 20)))], .agg [.int .i64 (.lit 41), .int .i64 (.lit 11), .int .i64 (.lit 11), .int .i64 (.lit 0), .int .i64 (.bin .sar 64 (.bin .shl 64 (.bin .and 32 (.var 0 32) (.lit 4095)) (.lit 52)) (.lit 52)), .int .i64 (.lit 4)]⟩
noncomputable def ms11 : List SM := se10 :: ms10
noncomputable def se11 : SM := ⟨71, [32], [.int .u32 (.bin .or 64 (.lit 361883) (.bin .shl 64 (.bin .and 32 (.var 0 32) (.lit 4095)) (.lit 20)))], .agg [.int .i64 (.lit 41), .int .i64 (.lit 11), .int .i64 (.lit 11), .int .i64 (.lit 0), .int .i64 (.bin .sar 64 (.bin .shl 64 (.bin .and 32 (.var 0 32) (.lit 4095)) (.lit 52)) (.lit 52)), .int .i64 (.lit 4)]⟩
noncomputable def ms12 : List SM := se11 :: ms11
noncomputable def msl : List SM := ms12
noncomputable def tab0 : Tab := ⟨6, .u64, [1, 10, 100, 1000, 10000, 100000, 1000000, 10000000, 100000000, 1000000000, 10000000000, 100000000000, 1000000000000, 10000000000000, 100000000000000, 1000000000000000, 10000000000000000, 100000000000000000, 1000000000000000000, 10000000000000000000]⟩
noncomputable def tab1 : Tab := ⟨5, .u8, [0, 1, 56, 2, 57, 49, 28, 3, 61, 58, 42, 50, 38, 29, 17, 4, 62, 47, 59, 36, 45, 43, 51, 22, 53, 39, 33, 30, 24, 18, 12, 5, 63, 55, 48, 27, 60, 41, 37, 16, 46, 35, 44, 21, 52, 32, 23, 11, 54, 26, 40, 15, 34, 20, 31, 10, 25, 14, 19, 9, 13, 8, 7, 6]⟩
noncomputable def gts : List Tab := [tab0, tab1]
abbrev sxT (i : Nat) : Tm := .un (.sx 32) 64 (.var i 32)
abbrev trT (i : Nat) : Tm := .un .tr 32 (.bin .sub 64 (sxT i) (.bin .sar 64 (.bin .shl 64 (sxT i) (.lit 52)) (.lit 52)))
abbrev putT (i : Nat) : Tm := .bin .sar 64 (.bin .shl 64 (.bin .add 64 (.bin .sar 64 (.bin .shl 64 (.bin .shl 64 (.bin .and 32 (.bin .shr 32 (trT i) (.lit 12)) (.lit 1048575)) (.lit 12)) (.lit 32)) (.lit 32)) (.bin .sar 64 (.bin .shl 64 (.bin .and 32 (.var i 32) (.lit 4095)) (.lit 52)) (.lit 52))) (.lit 32)) (.lit 32)
abbrev divT : Tm := .bin .add 64 (.bin .mul 64 (.bin .sdiv 64 (sxT 0) (sxT 1)) (sxT 1)) (.bin .srem 64 (sxT 0) (sxT 1))
noncomputable def lems : List Vc := [⟨[], .bin .eq 64 (sxT 0) (putT 0)⟩, ⟨[], .bin .eq 64 (sxT 1) (putT 1)⟩, ⟨[], .bin .eq 64 divT (sxT 0)⟩, ⟨[.un .bnot 1 (.bin .eq 32 (.var 1 32) (.lit 0))], .un .bnot 1 (.bin .eq 64 (sxT 1) (.lit 0))⟩, ⟨[.bin .eq 32 (.var 1 32) (.lit 0)], .bin .eq 64 (.lit 0) (putT 1)⟩,
  ⟨[.bin .eq 64 (sxT 1) (.lit 18446744073709551615)], .bin .eq 64 (.bin .add 64 (.bin .mul 64 (.bin .sub 64 (.lit 0) (sxT 0)) (sxT 1)) (.lit 0)) (sxT 0)⟩,
  ⟨[.bin .eq 64 (sxT 1) (.lit 18446744073709551615)], .bin .eq 64 (.bin .sub 64 (.lit 0) (sxT 0)) (.bin .sdiv 64 (sxT 0) (sxT 1))⟩, ⟨[.bin .eq 64 (sxT 1) (.lit 18446744073709551615)], .bin .eq 64 (.bin .srem 64 (sxT 0) (sxT 1)) (.lit 0)⟩, ⟨[.un .bnot 1 (.bin .eq 32 (.var 1 32) (.lit 0))], sxT 1⟩]
/-- Ahead of a round of the loop: what was put together is the numbers. -/
noncomputable def lhD4 : LH := {clr := [34], put := [(35, .bool (.lit 1))], set := [(⟨6, [1, 0, 10]⟩, sxT 0), (⟨6, [1, 0, 11]⟩, sxT 1)], when := [(7, 4)], gen := [], fs := [], jc := 0, B := 0}
noncomputable def lhZ4 : LH := {clr := [34], put := [(35, .bool (.lit 1))], set := [(⟨6, [1, 0, 10]⟩, sxT 0), (⟨6, [1, 0, 11]⟩, .lit 0)], when := [(7, 4)], gen := [], fs := [], jc := 0, B := 0}
noncomputable def jkZ : List LK := [⟨8, 2, lhZ4, 5⟩]
noncomputable def jk : List LK := [⟨8, 2, lhD4, 5⟩]
end Go.Proofs.YtlccaffnepiapaaGreatDoor.TopDivides
