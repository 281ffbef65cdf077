/- DecodeRegisters: for every input that the statement lets in the law returns true, and the input reads as it did. No condition. -/
import Derived.Test.YtfiigocibcpdnaaSyE
import Derived.Test.YtfiigocibcpdnaaRows
import Derived.Test.YtfiigocibcpdnaaLawDecodeRegistersR0
import Derived.Test.YtfiigocibcpdnaaLawDecodeRegistersR1
import Derived.Test.YtfiigocibcpdnaaLawDecodeRegistersR2
import Derived.Test.YtfiigocibcpdnaaLawDecodeRegistersR3
import Derived.Test.YtfiigocibcpdnaaLawDecodeRegistersR4
import Derived.Test.YtfiigocibcpdnaaLawDecodeRegistersR5
import Derived.Test.YtfiigocibcpdnaaLawDecodeRegistersR6
import Derived.Test.YtfiigocibcpdnaaLawDecodeRegistersR7
import Derived.Test.YtfiigocibcpdnaaLawDecodeRegistersR8
import Derived.Test.YtfiigocibcpdnaaLawDecodeRegistersR9
import Derived.Test.YtfiigocibcpdnaaLawDecodeRegistersR10
import Derived.Test.YtfiigocibcpdnaaLawDecodeRegistersR11
import Derived.Test.YtfiigocibcpdnaaLawDecodeRegistersR12
import Derived.Test.YtfiigocibcpdnaaLawDecodeRegistersR13
import Derived.Test.YtfiigocibcpdnaaLawDecodeRegistersR14
import Derived.Test.YtfiigocibcpdnaaLawDecodeRegistersR15
import Derived.Test.YtfiigocibcpdnaaLawDecodeRegistersR16
import Derived.Test.YtfiigocibcpdnaaLawDecodeRegistersR17
import Derived.Test.YtfiigocibcpdnaaLawDecodeRegistersR18
import Derived.Test.YtfiigocibcpdnaaLawDecodeRegistersR19
import Derived.Test.YtfiigocibcpdnaaLawDecodeRegistersR20
import Derived.Test.YtfiigocibcpdnaaLawDecodeRegistersR21
import Derived.Test.YtfiigocibcpdnaaLawDecodeRegistersR22
import Derived.Test.YtfiigocibcpdnaaLawDecodeRegistersR23
import Derived.Test.YtfiigocibcpdnaaLawDecodeRegistersR24
import Derived.Test.YtfiigocibcpdnaaLawDecodeRegistersR25
import Derived.Test.YtfiigocibcpdnaaLawDecodeRegistersR26
import Derived.Test.YtfiigocibcpdnaaLawDecodeRegistersR27
import Derived.Test.YtfiigocibcpdnaaLawDecodeRegistersR28
import Derived.Test.YtfiigocibcpdnaaLawDecodeRegistersR29
import Derived.Test.YtfiigocibcpdnaaLawDecodeRegistersR30
import Derived.Test.YtfiigocibcpdnaaLawDecodeRegistersR31
import Derived.Test.YtfiigocibcpdnaaLawDecodeRegistersR32
import Derived.Test.YtfiigocibcpdnaaLawDecodeRegistersR33
import Derived.Test.YtfiigocibcpdnaaLawDecodeRegistersR34
import Derived.Test.YtfiigocibcpdnaaLawDecodeRegistersR35
import Derived.Test.YtfiigocibcpdnaaLawDecodeRegistersR36
import Derived.Test.YtfiigocibcpdnaaLawDecodeRegistersR37
import Derived.Test.YtfiigocibcpdnaaLawDecodeRegistersR38
namespace Go.Proofs.Ytfiigocibcpdnaa.DecodeRegisters
open Go.ChangeShapes Go.WideShapes Go.ChangeAt Go.RowKit Go.Sy
set_option linter.unusedVariables false
theorem own : ownKnob Try.prog.godebug = none := by kernel_rfl
theorem laidOut : laidOutB Try.prog = true := by kernel_rfl
theorem mixed : Try.prog.follows .mixedOrders = true := by kernel_rfl

theorem sym : symArgs Try.prog Try.f5.params.toList 0 = some ([.int .u32 (.var 0 32), .agg [.int .u8 (.var 1 8), .int .u8 (.var 2 8)]], 3) := by kernel_rfl
theorem runs (σ : Nat → Nat) (vs : List Value) (w : World) (hd : DenLC 3 σ (fun _ => none) [.int .u32 (.var 0 32), .agg [.int .u8 (.var 1 8), .int .u8 (.var 2 8)]] vs) : Calls Try.prog 5 vs.toArray w fun e w' => e = .returned (.bool true) ∧ Below w.heap.size w w' := by
  by_cases h0 : (Tm.bin .eq 32 (.bin .and 32 (.var 0 32) (.lit 127)) (.lit 51) : Tm).ev σ ≠ 0
  · skip
    by_cases h1 : (Tm.bin .eq 32 (.bin .and 32 (.bin .shr 32 (.var 0 32) (.lit 25)) (.lit 127)) (.lit 0) : Tm).ev σ ≠ 0
    · skip
      by_cases h2 : (Tm.bin .ult 32 (.bin .and 32 (.bin .shr 32 (.var 0 32) (.lit 12)) (.lit 7)) (.lit 4) : Tm).ev σ ≠ 0
      · skip
        exact part_run (svs := ([.int .u32 (.var 0 32), .agg [.int .u8 (.var 1 8), .int .u8 (.var 2 8)]], 3)) mixed run0 (fun _ _ h => by cases h) σ (all_cons h0 (all_cons h1 (all_cons h2 all_nil))) vs w hd
      · skip
        exact part_run (svs := ([.int .u32 (.var 0 32), .agg [.int .u8 (.var 1 8), .int .u8 (.var 2 8)]], 3)) mixed run1 (fun _ _ h => by cases h) σ (all_cons h0 (all_cons h1 (all_cons (not_ne h2) all_nil))) vs w hd
    · skip
      by_cases h2 : (Tm.bin .eq 32 (.bin .and 32 (.bin .shr 32 (.var 0 32) (.lit 25)) (.lit 127)) (.lit 1) : Tm).ev σ ≠ 0
      · skip
        by_cases h3 : (Tm.bin .ult 32 (.bin .and 32 (.bin .shr 32 (.var 0 32) (.lit 12)) (.lit 7)) (.lit 4) : Tm).ev σ ≠ 0
        · skip
          exact part_run (svs := ([.int .u32 (.var 0 32), .agg [.int .u8 (.var 1 8), .int .u8 (.var 2 8)]], 3)) mixed run2 (fun _ _ h => by cases h) σ (all_cons h0 (all_cons (not_ne h1) (all_cons h2 (all_cons h3 all_nil)))) vs w hd
        · skip
          exact part_run (svs := ([.int .u32 (.var 0 32), .agg [.int .u8 (.var 1 8), .int .u8 (.var 2 8)]], 3)) mixed run3 (fun _ _ h => by cases h) σ (all_cons h0 (all_cons (not_ne h1) (all_cons h2 (all_cons (not_ne h3) all_nil)))) vs w hd
      · skip
        exact part_run (svs := ([.int .u32 (.var 0 32), .agg [.int .u8 (.var 1 8), .int .u8 (.var 2 8)]], 3)) mixed run4 (fun _ _ h => by cases h) σ (all_cons h0 (all_cons (not_ne h1) (all_cons (not_ne h2) all_nil))) vs w hd
  · skip
    by_cases h1 : (Tm.bin .eq 32 (.bin .and 32 (.var 0 32) (.lit 127)) (.lit 59) : Tm).ev σ ≠ 0
    · skip
      by_cases h2 : (Tm.bin .eq 32 (.bin .and 32 (.bin .shr 32 (.var 0 32) (.lit 25)) (.lit 127)) (.lit 0) : Tm).ev σ ≠ 0
      · skip
        exact part_run (svs := ([.int .u32 (.var 0 32), .agg [.int .u8 (.var 1 8), .int .u8 (.var 2 8)]], 3)) mixed run5 (fun _ _ h => by cases h) σ (all_cons (not_ne h0) (all_cons h1 (all_cons h2 all_nil))) vs w hd
      · skip
        by_cases h3 : (Tm.bin .eq 32 (.bin .and 32 (.bin .shr 32 (.var 0 32) (.lit 25)) (.lit 127)) (.lit 1) : Tm).ev σ ≠ 0
        · skip
          exact part_run (svs := ([.int .u32 (.var 0 32), .agg [.int .u8 (.var 1 8), .int .u8 (.var 2 8)]], 3)) mixed run6 (fun _ _ h => by cases h) σ (all_cons (not_ne h0) (all_cons h1 (all_cons (not_ne h2) (all_cons h3 all_nil)))) vs w hd
        · skip
          exact part_run (svs := ([.int .u32 (.var 0 32), .agg [.int .u8 (.var 1 8), .int .u8 (.var 2 8)]], 3)) mixed run7 (fun _ _ h => by cases h) σ (all_cons (not_ne h0) (all_cons h1 (all_cons (not_ne h2) (all_cons (not_ne h3) all_nil)))) vs w hd
    · skip
      by_cases h2 : (Tm.bin .eq 32 (.bin .and 32 (.var 0 32) (.lit 127)) (.lit 19) : Tm).ev σ ≠ 0
      · skip
        by_cases h3 : (Tm.bin .ult 32 (.bin .and 32 (.bin .shr 32 (.var 0 32) (.lit 12)) (.lit 7)) (.lit 4) : Tm).ev σ ≠ 0
        · skip
          exact part_run (svs := ([.int .u32 (.var 0 32), .agg [.int .u8 (.var 1 8), .int .u8 (.var 2 8)]], 3)) mixed run8 (fun _ _ h => by cases h) σ (all_cons (not_ne h0) (all_cons (not_ne h1) (all_cons h2 (all_cons h3 all_nil)))) vs w hd
        · skip
          exact part_run (svs := ([.int .u32 (.var 0 32), .agg [.int .u8 (.var 1 8), .int .u8 (.var 2 8)]], 3)) mixed run9 (fun _ _ h => by cases h) σ (all_cons (not_ne h0) (all_cons (not_ne h1) (all_cons h2 (all_cons (not_ne h3) all_nil)))) vs w hd
      · skip
        by_cases h3 : (Tm.bin .eq 32 (.bin .and 32 (.var 0 32) (.lit 127)) (.lit 27) : Tm).ev σ ≠ 0
        · skip
          exact part_run (svs := ([.int .u32 (.var 0 32), .agg [.int .u8 (.var 1 8), .int .u8 (.var 2 8)]], 3)) mixed run10 (fun _ _ h => by cases h) σ (all_cons (not_ne h0) (all_cons (not_ne h1) (all_cons (not_ne h2) (all_cons h3 all_nil)))) vs w hd
        · skip
          by_cases h4 : (Tm.bin .eq 32 (.bin .and 32 (.var 0 32) (.lit 127)) (.lit 3) : Tm).ev σ ≠ 0
          · skip
            by_cases h5 : (Tm.bin .ult 32 (.bin .and 32 (.bin .shr 32 (.var 0 32) (.lit 12)) (.lit 7)) (.lit 4) : Tm).ev σ ≠ 0
            · skip
              exact part_run (svs := ([.int .u32 (.var 0 32), .agg [.int .u8 (.var 1 8), .int .u8 (.var 2 8)]], 3)) mixed run11 (fun _ _ h => by cases h) σ (all_cons (not_ne h0) (all_cons (not_ne h1) (all_cons (not_ne h2) (all_cons (not_ne h3) (all_cons h4 (all_cons h5 all_nil)))))) vs w hd
            · skip
              exact part_run (svs := ([.int .u32 (.var 0 32), .agg [.int .u8 (.var 1 8), .int .u8 (.var 2 8)]], 3)) mixed run12 (fun _ _ h => by cases h) σ (all_cons (not_ne h0) (all_cons (not_ne h1) (all_cons (not_ne h2) (all_cons (not_ne h3) (all_cons h4 (all_cons (not_ne h5) all_nil)))))) vs w hd
          · skip
            by_cases h5 : (Tm.bin .eq 32 (.bin .and 32 (.var 0 32) (.lit 127)) (.lit 35) : Tm).ev σ ≠ 0
            · skip
              exact part_run (svs := ([.int .u32 (.var 0 32), .agg [.int .u8 (.var 1 8), .int .u8 (.var 2 8)]], 3)) mixed run13 (fun _ _ h => by cases h) σ (all_cons (not_ne h0) (all_cons (not_ne h1) (all_cons (not_ne h2) (all_cons (not_ne h3) (all_cons (not_ne h4) (all_cons h5 all_nil)))))) vs w hd
            · skip
              by_cases h6 : (Tm.bin .eq 32 (.bin .and 32 (.var 0 32) (.lit 127)) (.lit 99) : Tm).ev σ ≠ 0
              · skip
                exact part_run (svs := ([.int .u32 (.var 0 32), .agg [.int .u8 (.var 1 8), .int .u8 (.var 2 8)]], 3)) mixed run14 (fun _ _ h => by cases h) σ (all_cons (not_ne h0) (all_cons (not_ne h1) (all_cons (not_ne h2) (all_cons (not_ne h3) (all_cons (not_ne h4) (all_cons (not_ne h5) (all_cons h6 all_nil))))))) vs w hd
              · skip
                by_cases h7 : (Tm.bin .eq 32 (.bin .and 32 (.var 0 32) (.lit 127)) (.lit 103) : Tm).ev σ ≠ 0
                · skip
                  exact part_run (svs := ([.int .u32 (.var 0 32), .agg [.int .u8 (.var 1 8), .int .u8 (.var 2 8)]], 3)) mixed run15 (fun _ _ h => by cases h) σ (all_cons (not_ne h0) (all_cons (not_ne h1) (all_cons (not_ne h2) (all_cons (not_ne h3) (all_cons (not_ne h4) (all_cons (not_ne h5) (all_cons (not_ne h6) (all_cons h7 all_nil)))))))) vs w hd
                · skip
                  by_cases h8 : (Tm.bin .eq 32 (.bin .and 32 (.var 0 32) (.lit 127)) (.lit 15) : Tm).ev σ ≠ 0
                  · skip
                    exact part_run (svs := ([.int .u32 (.var 0 32), .agg [.int .u8 (.var 1 8), .int .u8 (.var 2 8)]], 3)) mixed run16 (fun _ _ h => by cases h) σ (all_cons (not_ne h0) (all_cons (not_ne h1) (all_cons (not_ne h2) (all_cons (not_ne h3) (all_cons (not_ne h4) (all_cons (not_ne h5) (all_cons (not_ne h6) (all_cons (not_ne h7) (all_cons h8 all_nil))))))))) vs w hd
                  · skip
                    by_cases h9 : (Tm.bin .eq 32 (.bin .and 32 (.var 0 32) (.lit 127)) (.lit 115) : Tm).ev σ ≠ 0
                    · skip
                      by_cases h10 : (Tm.bin .eq 32 (.bin .and 32 (.bin .shr 32 (.var 0 32) (.lit 12)) (.lit 7)) (.lit 1) : Tm).ev σ ≠ 0
                      · skip
                        exact part_run (svs := ([.int .u32 (.var 0 32), .agg [.int .u8 (.var 1 8), .int .u8 (.var 2 8)]], 3)) mixed run17 (fun _ _ h => by cases h) σ (all_cons (not_ne h0) (all_cons (not_ne h1) (all_cons (not_ne h2) (all_cons (not_ne h3) (all_cons (not_ne h4) (all_cons (not_ne h5) (all_cons (not_ne h6) (all_cons (not_ne h7) (all_cons (not_ne h8) (all_cons h9 (all_cons h10 all_nil))))))))))) vs w hd
                      · skip
                        by_cases h11 : (Tm.bin .eq 32 (.bin .and 32 (.bin .shr 32 (.var 0 32) (.lit 12)) (.lit 7)) (.lit 2) : Tm).ev σ ≠ 0
                        · skip
                          exact part_run (svs := ([.int .u32 (.var 0 32), .agg [.int .u8 (.var 1 8), .int .u8 (.var 2 8)]], 3)) mixed run18 (fun _ _ h => by cases h) σ (all_cons (not_ne h0) (all_cons (not_ne h1) (all_cons (not_ne h2) (all_cons (not_ne h3) (all_cons (not_ne h4) (all_cons (not_ne h5) (all_cons (not_ne h6) (all_cons (not_ne h7) (all_cons (not_ne h8) (all_cons h9 (all_cons (not_ne h10) (all_cons h11 all_nil)))))))))))) vs w hd
                        · skip
                          by_cases h12 : (Tm.bin .eq 32 (.bin .and 32 (.bin .shr 32 (.var 0 32) (.lit 12)) (.lit 7)) (.lit 3) : Tm).ev σ ≠ 0
                          · skip
                            exact part_run (svs := ([.int .u32 (.var 0 32), .agg [.int .u8 (.var 1 8), .int .u8 (.var 2 8)]], 3)) mixed run19 (fun _ _ h => by cases h) σ (all_cons (not_ne h0) (all_cons (not_ne h1) (all_cons (not_ne h2) (all_cons (not_ne h3) (all_cons (not_ne h4) (all_cons (not_ne h5) (all_cons (not_ne h6) (all_cons (not_ne h7) (all_cons (not_ne h8) (all_cons h9 (all_cons (not_ne h10) (all_cons (not_ne h11) (all_cons h12 all_nil))))))))))))) vs w hd
                          · skip
                            by_cases h13 : (Tm.bin .eq 32 (.bin .and 32 (.bin .shr 32 (.var 0 32) (.lit 12)) (.lit 7)) (.lit 5) : Tm).ev σ ≠ 0
                            · skip
                              exact part_run (svs := ([.int .u32 (.var 0 32), .agg [.int .u8 (.var 1 8), .int .u8 (.var 2 8)]], 3)) mixed run20 (fun _ _ h => by cases h) σ (all_cons (not_ne h0) (all_cons (not_ne h1) (all_cons (not_ne h2) (all_cons (not_ne h3) (all_cons (not_ne h4) (all_cons (not_ne h5) (all_cons (not_ne h6) (all_cons (not_ne h7) (all_cons (not_ne h8) (all_cons h9 (all_cons (not_ne h10) (all_cons (not_ne h11) (all_cons (not_ne h12) (all_cons h13 all_nil)))))))))))))) vs w hd
                            · skip
                              by_cases h14 : (Tm.bin .eq 32 (.bin .and 32 (.bin .shr 32 (.var 0 32) (.lit 12)) (.lit 7)) (.lit 6) : Tm).ev σ ≠ 0
                              · skip
                                exact part_run (svs := ([.int .u32 (.var 0 32), .agg [.int .u8 (.var 1 8), .int .u8 (.var 2 8)]], 3)) mixed run21 (fun _ _ h => by cases h) σ (all_cons (not_ne h0) (all_cons (not_ne h1) (all_cons (not_ne h2) (all_cons (not_ne h3) (all_cons (not_ne h4) (all_cons (not_ne h5) (all_cons (not_ne h6) (all_cons (not_ne h7) (all_cons (not_ne h8) (all_cons h9 (all_cons (not_ne h10) (all_cons (not_ne h11) (all_cons (not_ne h12) (all_cons (not_ne h13) (all_cons h14 all_nil))))))))))))))) vs w hd
                              · skip
                                by_cases h15 : (Tm.bin .eq 32 (.bin .and 32 (.bin .shr 32 (.var 0 32) (.lit 12)) (.lit 7)) (.lit 7) : Tm).ev σ ≠ 0
                                · skip
                                  exact part_run (svs := ([.int .u32 (.var 0 32), .agg [.int .u8 (.var 1 8), .int .u8 (.var 2 8)]], 3)) mixed run22 (fun _ _ h => by cases h) σ (all_cons (not_ne h0) (all_cons (not_ne h1) (all_cons (not_ne h2) (all_cons (not_ne h3) (all_cons (not_ne h4) (all_cons (not_ne h5) (all_cons (not_ne h6) (all_cons (not_ne h7) (all_cons (not_ne h8) (all_cons h9 (all_cons (not_ne h10) (all_cons (not_ne h11) (all_cons (not_ne h12) (all_cons (not_ne h13) (all_cons (not_ne h14) (all_cons h15 all_nil)))))))))))))))) vs w hd
                                · skip
                                  exact part_run (svs := ([.int .u32 (.var 0 32), .agg [.int .u8 (.var 1 8), .int .u8 (.var 2 8)]], 3)) mixed run23 (fun _ _ h => by cases h) σ (all_cons (not_ne h0) (all_cons (not_ne h1) (all_cons (not_ne h2) (all_cons (not_ne h3) (all_cons (not_ne h4) (all_cons (not_ne h5) (all_cons (not_ne h6) (all_cons (not_ne h7) (all_cons (not_ne h8) (all_cons h9 (all_cons (not_ne h10) (all_cons (not_ne h11) (all_cons (not_ne h12) (all_cons (not_ne h13) (all_cons (not_ne h14) (all_cons (not_ne h15) all_nil)))))))))))))))) vs w hd
                    · skip
                      by_cases h10 : (Tm.bin .eq 32 (.bin .and 32 (.var 0 32) (.lit 127)) (.lit 47) : Tm).ev σ ≠ 0
                      · skip
                        by_cases h11 : (Tm.bin .eq 32 (.bin .and 32 (.bin .shr 32 (.var 0 32) (.lit 12)) (.lit 7)) (.lit 2) : Tm).ev σ ≠ 0
                        · skip
                          by_cases h12 : (Tm.bin .ult 32 (.bin .and 32 (.bin .shr 32 (.var 0 32) (.lit 27)) (.lit 31)) (.lit 2) : Tm).ev σ ≠ 0
                          · skip
                            exact part_run (svs := ([.int .u32 (.var 0 32), .agg [.int .u8 (.var 1 8), .int .u8 (.var 2 8)]], 3)) mixed run24 (fun _ _ h => by cases h) σ (all_cons (not_ne h0) (all_cons (not_ne h1) (all_cons (not_ne h2) (all_cons (not_ne h3) (all_cons (not_ne h4) (all_cons (not_ne h5) (all_cons (not_ne h6) (all_cons (not_ne h7) (all_cons (not_ne h8) (all_cons (not_ne h9) (all_cons h10 (all_cons h11 (all_cons h12 all_nil))))))))))))) vs w hd
                          · skip
                            by_cases h13 : (Tm.bin .ult 32 (.bin .and 32 (.bin .shr 32 (.var 0 32) (.lit 27)) (.lit 31)) (.lit 4) : Tm).ev σ ≠ 0
                            · skip
                              exact part_run (svs := ([.int .u32 (.var 0 32), .agg [.int .u8 (.var 1 8), .int .u8 (.var 2 8)]], 3)) mixed run25 (fun _ _ h => by cases h) σ (all_cons (not_ne h0) (all_cons (not_ne h1) (all_cons (not_ne h2) (all_cons (not_ne h3) (all_cons (not_ne h4) (all_cons (not_ne h5) (all_cons (not_ne h6) (all_cons (not_ne h7) (all_cons (not_ne h8) (all_cons (not_ne h9) (all_cons h10 (all_cons h11 (all_cons (not_ne h12) (all_cons h13 all_nil)))))))))))))) vs w hd
                            · skip
                              by_cases h14 : (Tm.bin .ult 32 (.bin .and 32 (.bin .shr 32 (.var 0 32) (.lit 27)) (.lit 31)) (.lit 10) : Tm).ev σ ≠ 0
                              · skip
                                exact part_run (svs := ([.int .u32 (.var 0 32), .agg [.int .u8 (.var 1 8), .int .u8 (.var 2 8)]], 3)) mixed run26 (fun _ _ h => by cases h) σ (all_cons (not_ne h0) (all_cons (not_ne h1) (all_cons (not_ne h2) (all_cons (not_ne h3) (all_cons (not_ne h4) (all_cons (not_ne h5) (all_cons (not_ne h6) (all_cons (not_ne h7) (all_cons (not_ne h8) (all_cons (not_ne h9) (all_cons h10 (all_cons h11 (all_cons (not_ne h12) (all_cons (not_ne h13) (all_cons h14 all_nil))))))))))))))) vs w hd
                              · skip
                                by_cases h15 : (Tm.bin .ult 32 (.bin .and 32 (.bin .shr 32 (.var 0 32) (.lit 27)) (.lit 31)) (.lit 18) : Tm).ev σ ≠ 0
                                · skip
                                  exact part_run (svs := ([.int .u32 (.var 0 32), .agg [.int .u8 (.var 1 8), .int .u8 (.var 2 8)]], 3)) mixed run27 (fun _ _ h => by cases h) σ (all_cons (not_ne h0) (all_cons (not_ne h1) (all_cons (not_ne h2) (all_cons (not_ne h3) (all_cons (not_ne h4) (all_cons (not_ne h5) (all_cons (not_ne h6) (all_cons (not_ne h7) (all_cons (not_ne h8) (all_cons (not_ne h9) (all_cons h10 (all_cons h11 (all_cons (not_ne h12) (all_cons (not_ne h13) (all_cons (not_ne h14) (all_cons h15 all_nil)))))))))))))))) vs w hd
                                · skip
                                  exact part_run (svs := ([.int .u32 (.var 0 32), .agg [.int .u8 (.var 1 8), .int .u8 (.var 2 8)]], 3)) mixed run28 (fun _ _ h => by cases h) σ (all_cons (not_ne h0) (all_cons (not_ne h1) (all_cons (not_ne h2) (all_cons (not_ne h3) (all_cons (not_ne h4) (all_cons (not_ne h5) (all_cons (not_ne h6) (all_cons (not_ne h7) (all_cons (not_ne h8) (all_cons (not_ne h9) (all_cons h10 (all_cons h11 (all_cons (not_ne h12) (all_cons (not_ne h13) (all_cons (not_ne h14) (all_cons (not_ne h15) all_nil)))))))))))))))) vs w hd
                        · skip
                          by_cases h12 : (Tm.bin .eq 32 (.bin .and 32 (.bin .shr 32 (.var 0 32) (.lit 12)) (.lit 7)) (.lit 3) : Tm).ev σ ≠ 0
                          · skip
                            by_cases h13 : (Tm.bin .ult 32 (.bin .and 32 (.bin .shr 32 (.var 0 32) (.lit 27)) (.lit 31)) (.lit 2) : Tm).ev σ ≠ 0
                            · skip
                              exact part_run (svs := ([.int .u32 (.var 0 32), .agg [.int .u8 (.var 1 8), .int .u8 (.var 2 8)]], 3)) mixed run29 (fun _ _ h => by cases h) σ (all_cons (not_ne h0) (all_cons (not_ne h1) (all_cons (not_ne h2) (all_cons (not_ne h3) (all_cons (not_ne h4) (all_cons (not_ne h5) (all_cons (not_ne h6) (all_cons (not_ne h7) (all_cons (not_ne h8) (all_cons (not_ne h9) (all_cons h10 (all_cons (not_ne h11) (all_cons h12 (all_cons h13 all_nil)))))))))))))) vs w hd
                            · skip
                              by_cases h14 : (Tm.bin .ult 32 (.bin .and 32 (.bin .shr 32 (.var 0 32) (.lit 27)) (.lit 31)) (.lit 4) : Tm).ev σ ≠ 0
                              · skip
                                exact part_run (svs := ([.int .u32 (.var 0 32), .agg [.int .u8 (.var 1 8), .int .u8 (.var 2 8)]], 3)) mixed run30 (fun _ _ h => by cases h) σ (all_cons (not_ne h0) (all_cons (not_ne h1) (all_cons (not_ne h2) (all_cons (not_ne h3) (all_cons (not_ne h4) (all_cons (not_ne h5) (all_cons (not_ne h6) (all_cons (not_ne h7) (all_cons (not_ne h8) (all_cons (not_ne h9) (all_cons h10 (all_cons (not_ne h11) (all_cons h12 (all_cons (not_ne h13) (all_cons h14 all_nil))))))))))))))) vs w hd
                              · skip
                                by_cases h15 : (Tm.bin .ult 32 (.bin .and 32 (.bin .shr 32 (.var 0 32) (.lit 27)) (.lit 31)) (.lit 10) : Tm).ev σ ≠ 0
                                · skip
                                  exact part_run (svs := ([.int .u32 (.var 0 32), .agg [.int .u8 (.var 1 8), .int .u8 (.var 2 8)]], 3)) mixed run31 (fun _ _ h => by cases h) σ (all_cons (not_ne h0) (all_cons (not_ne h1) (all_cons (not_ne h2) (all_cons (not_ne h3) (all_cons (not_ne h4) (all_cons (not_ne h5) (all_cons (not_ne h6) (all_cons (not_ne h7) (all_cons (not_ne h8) (all_cons (not_ne h9) (all_cons h10 (all_cons (not_ne h11) (all_cons h12 (all_cons (not_ne h13) (all_cons (not_ne h14) (all_cons h15 all_nil)))))))))))))))) vs w hd
                                · skip
                                  by_cases h16 : (Tm.bin .ult 32 (.bin .and 32 (.bin .shr 32 (.var 0 32) (.lit 27)) (.lit 31)) (.lit 18) : Tm).ev σ ≠ 0
                                  · skip
                                    exact part_run (svs := ([.int .u32 (.var 0 32), .agg [.int .u8 (.var 1 8), .int .u8 (.var 2 8)]], 3)) mixed run32 (fun _ _ h => by cases h) σ (all_cons (not_ne h0) (all_cons (not_ne h1) (all_cons (not_ne h2) (all_cons (not_ne h3) (all_cons (not_ne h4) (all_cons (not_ne h5) (all_cons (not_ne h6) (all_cons (not_ne h7) (all_cons (not_ne h8) (all_cons (not_ne h9) (all_cons h10 (all_cons (not_ne h11) (all_cons h12 (all_cons (not_ne h13) (all_cons (not_ne h14) (all_cons (not_ne h15) (all_cons h16 all_nil))))))))))))))))) vs w hd
                                  · skip
                                    exact part_run (svs := ([.int .u32 (.var 0 32), .agg [.int .u8 (.var 1 8), .int .u8 (.var 2 8)]], 3)) mixed run33 (fun _ _ h => by cases h) σ (all_cons (not_ne h0) (all_cons (not_ne h1) (all_cons (not_ne h2) (all_cons (not_ne h3) (all_cons (not_ne h4) (all_cons (not_ne h5) (all_cons (not_ne h6) (all_cons (not_ne h7) (all_cons (not_ne h8) (all_cons (not_ne h9) (all_cons h10 (all_cons (not_ne h11) (all_cons h12 (all_cons (not_ne h13) (all_cons (not_ne h14) (all_cons (not_ne h15) (all_cons (not_ne h16) all_nil))))))))))))))))) vs w hd
                          · skip
                            exact part_run (svs := ([.int .u32 (.var 0 32), .agg [.int .u8 (.var 1 8), .int .u8 (.var 2 8)]], 3)) mixed run34 (fun _ _ h => by cases h) σ (all_cons (not_ne h0) (all_cons (not_ne h1) (all_cons (not_ne h2) (all_cons (not_ne h3) (all_cons (not_ne h4) (all_cons (not_ne h5) (all_cons (not_ne h6) (all_cons (not_ne h7) (all_cons (not_ne h8) (all_cons (not_ne h9) (all_cons h10 (all_cons (not_ne h11) (all_cons (not_ne h12) all_nil))))))))))))) vs w hd
                      · skip
                        by_cases h11 : (Tm.bin .eq 32 (.bin .and 32 (.var 0 32) (.lit 127)) (.lit 55) : Tm).ev σ ≠ 0
                        · skip
                          exact part_run (svs := ([.int .u32 (.var 0 32), .agg [.int .u8 (.var 1 8), .int .u8 (.var 2 8)]], 3)) mixed run35 (fun _ _ h => by cases h) σ (all_cons (not_ne h0) (all_cons (not_ne h1) (all_cons (not_ne h2) (all_cons (not_ne h3) (all_cons (not_ne h4) (all_cons (not_ne h5) (all_cons (not_ne h6) (all_cons (not_ne h7) (all_cons (not_ne h8) (all_cons (not_ne h9) (all_cons (not_ne h10) (all_cons h11 all_nil)))))))))))) vs w hd
                        · skip
                          by_cases h12 : (Tm.bin .eq 32 (.bin .and 32 (.var 0 32) (.lit 127)) (.lit 23) : Tm).ev σ ≠ 0
                          · skip
                            exact part_run (svs := ([.int .u32 (.var 0 32), .agg [.int .u8 (.var 1 8), .int .u8 (.var 2 8)]], 3)) mixed run36 (fun _ _ h => by cases h) σ (all_cons (not_ne h0) (all_cons (not_ne h1) (all_cons (not_ne h2) (all_cons (not_ne h3) (all_cons (not_ne h4) (all_cons (not_ne h5) (all_cons (not_ne h6) (all_cons (not_ne h7) (all_cons (not_ne h8) (all_cons (not_ne h9) (all_cons (not_ne h10) (all_cons (not_ne h11) (all_cons h12 all_nil))))))))))))) vs w hd
                          · skip
                            by_cases h13 : (Tm.bin .eq 32 (.bin .and 32 (.var 0 32) (.lit 127)) (.lit 111) : Tm).ev σ ≠ 0
                            · skip
                              exact part_run (svs := ([.int .u32 (.var 0 32), .agg [.int .u8 (.var 1 8), .int .u8 (.var 2 8)]], 3)) mixed run37 (fun _ _ h => by cases h) σ (all_cons (not_ne h0) (all_cons (not_ne h1) (all_cons (not_ne h2) (all_cons (not_ne h3) (all_cons (not_ne h4) (all_cons (not_ne h5) (all_cons (not_ne h6) (all_cons (not_ne h7) (all_cons (not_ne h8) (all_cons (not_ne h9) (all_cons (not_ne h10) (all_cons (not_ne h11) (all_cons (not_ne h12) (all_cons h13 all_nil)))))))))))))) vs w hd
                            · skip
                              exact part_run (svs := ([.int .u32 (.var 0 32), .agg [.int .u8 (.var 1 8), .int .u8 (.var 2 8)]], 3)) mixed run38 (fun _ _ h => by cases h) σ (all_cons (not_ne h0) (all_cons (not_ne h1) (all_cons (not_ne h2) (all_cons (not_ne h3) (all_cons (not_ne h4) (all_cons (not_ne h5) (all_cons (not_ne h6) (all_cons (not_ne h7) (all_cons (not_ne h8) (all_cons (not_ne h9) (all_cons (not_ne h10) (all_cons (not_ne h11) (all_cons (not_ne h12) (all_cons (not_ne h13) all_nil)))))))))))))) vs w hd
set_option maxRecDepth 100000 in
theorem lifted (os : Os) (started : os.Started) (H : Type) (enc : TypeId × Value → H) :
    ReturnsInHanded {} Try.checked os 5 .any (Rows.decodeRegistersSpec.pre6 enc Try.prog Try.f5 Rows.decodeRegistersRow.domain false) (Rows.decodeRegistersSpec.post enc Try.prog Try.f5 false true false false) := by
  refine returnsInHanded_of_change (C := Try.checked) own started (by kernel_rfl) Try.func5
    (ChangeSpec.witness6 (enc := enc) (C := Try.checked) false ⟨#[], #[.int .u32 0, .agg #[.int .u8 0, .int .u8 0]], []⟩ 8 (by kernel_rfl) (by kernel_rfl) (by kernel_rfl) (by kernel_rfl)) ?_
  intro W base args ds gs before hval hW _ _
  exact law_contract (P := Try.prog) laidOut sym runs (by kernel_rfl) rfl (by rfl) Try.underlying4
    (fun ds h => by
      have h' : ds.length = 2 := by rw [h, Try.params5]; rfl
      match ds, h' with | [d0, d1], _ => rfl) W base args ds gs before hval hW
theorem over : Rows.decodeRegistersRow.holds Try.pinned (OpenSpec.ofChange Rows.decodeRegistersSpec) :=
  OpenClaim.holds_of_wide 5 Try.f5 rfl rfl rfl rfl rfl rfl rfl ⟨rfl, rfl, rfl, rfl, rfl⟩ rfl rfl rfl rfl rfl (by kernel_rfl) Try.func5 (by kernel_rfl)
    (of_decide_eq_true (by kernel_rfl)) (by unfold Func.isWrapper; first | (rw [if_pos (by decide +kernel)]; kernel_rfl) | (rw [if_neg (by decide +kernel)]; exact ⟨rfl, rfl⟩))
    (fun os started H enc _ => lifted os started H enc)
theorem proved : Rows.DecodeRegistersSaid := over
#print axioms proved
end Go.Proofs.Ytfiigocibcpdnaa.DecodeRegisters
namespace Go.Proofs.Ytfiigocibcpdnaa
/-- The row, under a short name, for the claim. -/
theorem decodeRegisters_holds : Rows.DecodeRegistersSaid := DecodeRegisters.proved
end Go.Proofs.Ytfiigocibcpdnaa
