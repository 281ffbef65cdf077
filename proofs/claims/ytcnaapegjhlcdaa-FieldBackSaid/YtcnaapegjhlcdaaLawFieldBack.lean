/- FieldBack: for every input that the statement lets in the law returns true, and the input reads as it did. No condition. -/
import Derived.Test.YtcnaapegjhlcdaaSyE
import Derived.Test.YtcnaapegjhlcdaaRows
import Derived.Test.YtcnaapegjhlcdaaLawFieldBackR0
import Derived.Test.YtcnaapegjhlcdaaLawFieldBackR1
import Derived.Test.YtcnaapegjhlcdaaLawFieldBackR2
import Derived.Test.YtcnaapegjhlcdaaLawFieldBackR3
import Derived.Test.YtcnaapegjhlcdaaLawFieldBackR4
namespace Go.Proofs.Ytcnaapegjhlcdaa.FieldBack
open Go.ChangeShapes Go.WideShapes Go.ChangeAt Go.RowKit Go.Sy
set_option linter.unusedVariables false
theorem own : ownKnob Try.prog.godebug = none := by kernel_rfl
theorem laidOut : laidOutB Try.prog = true := by kernel_rfl
theorem mixed : Try.prog.follows .mixedOrders = true := by kernel_rfl

theorem sym : symArgs Try.prog Try.f3.params.toList 0 = some ([.int .u32 (.var 0 32), .int .u8 (.var 1 8)], 2) := by kernel_rfl
theorem runs (σ : Nat → Nat) (vs : List Value) (w : World) (hd : DenLC 2 σ (fun _ => none) [.int .u32 (.var 0 32), .int .u8 (.var 1 8)] vs) : Calls Try.prog 3 vs.toArray w fun e w' => e = .returned (.bool true) ∧ Below w.heap.size w w' := by
  by_cases h0 : (Tm.bin .eq 64 (.bin .srem 64 (.var 1 8) (.lit 5)) (.lit 0) : Tm).ev σ ≠ 0
  · skip
    by_cases h1 : (Tm.bin .and 32 (.bin .shr 32 (.var 0 32) (.lit 20)) (.lit 1) : Tm).ev σ ≠ 0
    · skip
      by_cases h2 : (Tm.bin .and 32 (.bin .shr 32 (.var 0 32) (.lit 21)) (.lit 1) : Tm).ev σ ≠ 0
      · skip
        by_cases h3 : (Tm.bin .and 32 (.bin .shr 32 (.var 0 32) (.lit 22)) (.lit 1) : Tm).ev σ ≠ 0
        · skip
          by_cases h4 : (Tm.bin .and 32 (.bin .shr 32 (.var 0 32) (.lit 23)) (.lit 1) : Tm).ev σ ≠ 0
          · skip
            by_cases h5 : (Tm.bin .and 32 (.bin .shr 32 (.var 0 32) (.lit 24)) (.lit 1) : Tm).ev σ ≠ 0
            · skip
              by_cases h6 : (Tm.bin .and 32 (.bin .shr 32 (.var 0 32) (.lit 25)) (.lit 1) : Tm).ev σ ≠ 0
              · skip
                by_cases h7 : (Tm.bin .and 32 (.bin .shr 32 (.var 0 32) (.lit 26)) (.lit 1) : Tm).ev σ ≠ 0
                · skip
                  by_cases h8 : (Tm.bin .and 32 (.bin .shr 32 (.var 0 32) (.lit 27)) (.lit 1) : Tm).ev σ ≠ 0
                  · skip
                    by_cases h9 : (Tm.bin .and 32 (.bin .shr 32 (.var 0 32) (.lit 28)) (.lit 1) : Tm).ev σ ≠ 0
                    · skip
                      by_cases h10 : (Tm.bin .and 32 (.bin .shr 32 (.var 0 32) (.lit 29)) (.lit 1) : Tm).ev σ ≠ 0
                      · skip
                        by_cases h11 : (Tm.bin .and 32 (.bin .shr 32 (.var 0 32) (.lit 30)) (.lit 1) : Tm).ev σ ≠ 0
                        · skip
                          by_cases h12 : (Tm.bin .and 32 (.bin .shr 32 (.var 0 32) (.lit 31)) (.lit 1) : Tm).ev σ ≠ 0
                          · skip
                            exact part_run (svs := ([.int .u32 (.var 0 32), .int .u8 (.var 1 8)], 2)) mixed run0 (fun _ _ h => by cases h) σ (all_cons h0 (all_cons h1 (all_cons h2 (all_cons h3 (all_cons h4 (all_cons h5 (all_cons h6 (all_cons h7 (all_cons h8 (all_cons h9 (all_cons h10 (all_cons h11 (all_cons h12 all_nil))))))))))))) vs w hd
                          · skip
                            exact part_run (svs := ([.int .u32 (.var 0 32), .int .u8 (.var 1 8)], 2)) mixed run1 (fun _ _ h => by cases h) σ (all_cons h0 (all_cons h1 (all_cons h2 (all_cons h3 (all_cons h4 (all_cons h5 (all_cons h6 (all_cons h7 (all_cons h8 (all_cons h9 (all_cons h10 (all_cons h11 (all_cons (not_ne h12) all_nil))))))))))))) vs w hd
                        · skip
                          exact part_run (svs := ([.int .u32 (.var 0 32), .int .u8 (.var 1 8)], 2)) mixed run2 (fun _ _ h => by cases h) σ (all_cons h0 (all_cons h1 (all_cons h2 (all_cons h3 (all_cons h4 (all_cons h5 (all_cons h6 (all_cons h7 (all_cons h8 (all_cons h9 (all_cons h10 (all_cons (not_ne h11) all_nil)))))))))))) vs w hd
                      · skip
                        exact part_run (svs := ([.int .u32 (.var 0 32), .int .u8 (.var 1 8)], 2)) mixed run3 (fun _ _ h => by cases h) σ (all_cons h0 (all_cons h1 (all_cons h2 (all_cons h3 (all_cons h4 (all_cons h5 (all_cons h6 (all_cons h7 (all_cons h8 (all_cons h9 (all_cons (not_ne h10) all_nil))))))))))) vs w hd
                    · skip
                      exact part_run (svs := ([.int .u32 (.var 0 32), .int .u8 (.var 1 8)], 2)) mixed run4 (fun _ _ h => by cases h) σ (all_cons h0 (all_cons h1 (all_cons h2 (all_cons h3 (all_cons h4 (all_cons h5 (all_cons h6 (all_cons h7 (all_cons h8 (all_cons (not_ne h9) all_nil)))))))))) vs w hd
                  · skip
                    exact part_run (svs := ([.int .u32 (.var 0 32), .int .u8 (.var 1 8)], 2)) mixed run5 (fun _ _ h => by cases h) σ (all_cons h0 (all_cons h1 (all_cons h2 (all_cons h3 (all_cons h4 (all_cons h5 (all_cons h6 (all_cons h7 (all_cons (not_ne h8) all_nil))))))))) vs w hd
                · skip
                  exact part_run (svs := ([.int .u32 (.var 0 32), .int .u8 (.var 1 8)], 2)) mixed run6 (fun _ _ h => by cases h) σ (all_cons h0 (all_cons h1 (all_cons h2 (all_cons h3 (all_cons h4 (all_cons h5 (all_cons h6 (all_cons (not_ne h7) all_nil)))))))) vs w hd
              · skip
                exact part_run (svs := ([.int .u32 (.var 0 32), .int .u8 (.var 1 8)], 2)) mixed run7 (fun _ _ h => by cases h) σ (all_cons h0 (all_cons h1 (all_cons h2 (all_cons h3 (all_cons h4 (all_cons h5 (all_cons (not_ne h6) all_nil))))))) vs w hd
            · skip
              exact part_run (svs := ([.int .u32 (.var 0 32), .int .u8 (.var 1 8)], 2)) mixed run8 (fun _ _ h => by cases h) σ (all_cons h0 (all_cons h1 (all_cons h2 (all_cons h3 (all_cons h4 (all_cons (not_ne h5) all_nil)))))) vs w hd
          · skip
            exact part_run (svs := ([.int .u32 (.var 0 32), .int .u8 (.var 1 8)], 2)) mixed run9 (fun _ _ h => by cases h) σ (all_cons h0 (all_cons h1 (all_cons h2 (all_cons h3 (all_cons (not_ne h4) all_nil))))) vs w hd
        · skip
          exact part_run (svs := ([.int .u32 (.var 0 32), .int .u8 (.var 1 8)], 2)) mixed run10 (fun _ _ h => by cases h) σ (all_cons h0 (all_cons h1 (all_cons h2 (all_cons (not_ne h3) all_nil)))) vs w hd
      · skip
        exact part_run (svs := ([.int .u32 (.var 0 32), .int .u8 (.var 1 8)], 2)) mixed run11 (fun _ _ h => by cases h) σ (all_cons h0 (all_cons h1 (all_cons (not_ne h2) all_nil))) vs w hd
    · skip
      exact part_run (svs := ([.int .u32 (.var 0 32), .int .u8 (.var 1 8)], 2)) mixed run12 (fun _ _ h => by cases h) σ (all_cons h0 (all_cons (not_ne h1) all_nil)) vs w hd
  · skip
    by_cases h1 : (Tm.bin .eq 64 (.bin .srem 64 (.var 1 8) (.lit 5)) (.lit 1) : Tm).ev σ ≠ 0
    · skip
      by_cases h2 : (Tm.bin .and 32 (.bin .shr 32 (.var 0 32) (.lit 7)) (.lit 1) : Tm).ev σ ≠ 0
      · skip
        by_cases h3 : (Tm.bin .and 32 (.bin .shr 32 (.var 0 32) (.lit 8)) (.lit 1) : Tm).ev σ ≠ 0
        · skip
          by_cases h4 : (Tm.bin .and 32 (.bin .shr 32 (.var 0 32) (.lit 9)) (.lit 1) : Tm).ev σ ≠ 0
          · skip
            by_cases h5 : (Tm.bin .and 32 (.bin .shr 32 (.var 0 32) (.lit 10)) (.lit 1) : Tm).ev σ ≠ 0
            · skip
              by_cases h6 : (Tm.bin .and 32 (.bin .shr 32 (.var 0 32) (.lit 11)) (.lit 1) : Tm).ev σ ≠ 0
              · skip
                by_cases h7 : (Tm.bin .and 32 (.bin .shr 32 (.var 0 32) (.lit 25)) (.lit 1) : Tm).ev σ ≠ 0
                · skip
                  by_cases h8 : (Tm.bin .and 32 (.bin .shr 32 (.var 0 32) (.lit 26)) (.lit 1) : Tm).ev σ ≠ 0
                  · skip
                    by_cases h9 : (Tm.bin .and 32 (.bin .shr 32 (.var 0 32) (.lit 27)) (.lit 1) : Tm).ev σ ≠ 0
                    · skip
                      by_cases h10 : (Tm.bin .and 32 (.bin .shr 32 (.var 0 32) (.lit 28)) (.lit 1) : Tm).ev σ ≠ 0
                      · skip
                        by_cases h11 : (Tm.bin .and 32 (.bin .shr 32 (.var 0 32) (.lit 29)) (.lit 1) : Tm).ev σ ≠ 0
                        · skip
                          by_cases h12 : (Tm.bin .and 32 (.bin .shr 32 (.var 0 32) (.lit 30)) (.lit 1) : Tm).ev σ ≠ 0
                          · skip
                            by_cases h13 : (Tm.bin .and 32 (.bin .shr 32 (.var 0 32) (.lit 31)) (.lit 1) : Tm).ev σ ≠ 0
                            · skip
                              exact part_run (svs := ([.int .u32 (.var 0 32), .int .u8 (.var 1 8)], 2)) mixed run13 (fun _ _ h => by cases h) σ (all_cons (not_ne h0) (all_cons h1 (all_cons h2 (all_cons h3 (all_cons h4 (all_cons h5 (all_cons h6 (all_cons h7 (all_cons h8 (all_cons h9 (all_cons h10 (all_cons h11 (all_cons h12 (all_cons h13 all_nil)))))))))))))) vs w hd
                            · skip
                              exact part_run (svs := ([.int .u32 (.var 0 32), .int .u8 (.var 1 8)], 2)) mixed run14 (fun _ _ h => by cases h) σ (all_cons (not_ne h0) (all_cons h1 (all_cons h2 (all_cons h3 (all_cons h4 (all_cons h5 (all_cons h6 (all_cons h7 (all_cons h8 (all_cons h9 (all_cons h10 (all_cons h11 (all_cons h12 (all_cons (not_ne h13) all_nil)))))))))))))) vs w hd
                          · skip
                            exact part_run (svs := ([.int .u32 (.var 0 32), .int .u8 (.var 1 8)], 2)) mixed run15 (fun _ _ h => by cases h) σ (all_cons (not_ne h0) (all_cons h1 (all_cons h2 (all_cons h3 (all_cons h4 (all_cons h5 (all_cons h6 (all_cons h7 (all_cons h8 (all_cons h9 (all_cons h10 (all_cons h11 (all_cons (not_ne h12) all_nil))))))))))))) vs w hd
                        · skip
                          exact part_run (svs := ([.int .u32 (.var 0 32), .int .u8 (.var 1 8)], 2)) mixed run16 (fun _ _ h => by cases h) σ (all_cons (not_ne h0) (all_cons h1 (all_cons h2 (all_cons h3 (all_cons h4 (all_cons h5 (all_cons h6 (all_cons h7 (all_cons h8 (all_cons h9 (all_cons h10 (all_cons (not_ne h11) all_nil)))))))))))) vs w hd
                      · skip
                        exact part_run (svs := ([.int .u32 (.var 0 32), .int .u8 (.var 1 8)], 2)) mixed run17 (fun _ _ h => by cases h) σ (all_cons (not_ne h0) (all_cons h1 (all_cons h2 (all_cons h3 (all_cons h4 (all_cons h5 (all_cons h6 (all_cons h7 (all_cons h8 (all_cons h9 (all_cons (not_ne h10) all_nil))))))))))) vs w hd
                    · skip
                      exact part_run (svs := ([.int .u32 (.var 0 32), .int .u8 (.var 1 8)], 2)) mixed run18 (fun _ _ h => by cases h) σ (all_cons (not_ne h0) (all_cons h1 (all_cons h2 (all_cons h3 (all_cons h4 (all_cons h5 (all_cons h6 (all_cons h7 (all_cons h8 (all_cons (not_ne h9) all_nil)))))))))) vs w hd
                  · skip
                    exact part_run (svs := ([.int .u32 (.var 0 32), .int .u8 (.var 1 8)], 2)) mixed run19 (fun _ _ h => by cases h) σ (all_cons (not_ne h0) (all_cons h1 (all_cons h2 (all_cons h3 (all_cons h4 (all_cons h5 (all_cons h6 (all_cons h7 (all_cons (not_ne h8) all_nil))))))))) vs w hd
                · skip
                  exact part_run (svs := ([.int .u32 (.var 0 32), .int .u8 (.var 1 8)], 2)) mixed run20 (fun _ _ h => by cases h) σ (all_cons (not_ne h0) (all_cons h1 (all_cons h2 (all_cons h3 (all_cons h4 (all_cons h5 (all_cons h6 (all_cons (not_ne h7) all_nil)))))))) vs w hd
              · skip
                exact part_run (svs := ([.int .u32 (.var 0 32), .int .u8 (.var 1 8)], 2)) mixed run21 (fun _ _ h => by cases h) σ (all_cons (not_ne h0) (all_cons h1 (all_cons h2 (all_cons h3 (all_cons h4 (all_cons h5 (all_cons (not_ne h6) all_nil))))))) vs w hd
            · skip
              exact part_run (svs := ([.int .u32 (.var 0 32), .int .u8 (.var 1 8)], 2)) mixed run22 (fun _ _ h => by cases h) σ (all_cons (not_ne h0) (all_cons h1 (all_cons h2 (all_cons h3 (all_cons h4 (all_cons (not_ne h5) all_nil)))))) vs w hd
          · skip
            exact part_run (svs := ([.int .u32 (.var 0 32), .int .u8 (.var 1 8)], 2)) mixed run23 (fun _ _ h => by cases h) σ (all_cons (not_ne h0) (all_cons h1 (all_cons h2 (all_cons h3 (all_cons (not_ne h4) all_nil))))) vs w hd
        · skip
          exact part_run (svs := ([.int .u32 (.var 0 32), .int .u8 (.var 1 8)], 2)) mixed run24 (fun _ _ h => by cases h) σ (all_cons (not_ne h0) (all_cons h1 (all_cons h2 (all_cons (not_ne h3) all_nil)))) vs w hd
      · skip
        exact part_run (svs := ([.int .u32 (.var 0 32), .int .u8 (.var 1 8)], 2)) mixed run25 (fun _ _ h => by cases h) σ (all_cons (not_ne h0) (all_cons h1 (all_cons (not_ne h2) all_nil))) vs w hd
    · skip
      by_cases h2 : (Tm.bin .eq 64 (.bin .srem 64 (.var 1 8) (.lit 5)) (.lit 2) : Tm).ev σ ≠ 0
      · skip
        by_cases h3 : (Tm.bin .and 32 (.bin .shr 32 (.var 0 32) (.lit 8)) (.lit 1) : Tm).ev σ ≠ 0
        · skip
          by_cases h4 : (Tm.bin .and 32 (.bin .shr 32 (.var 0 32) (.lit 9)) (.lit 1) : Tm).ev σ ≠ 0
          · skip
            by_cases h5 : (Tm.bin .and 32 (.bin .shr 32 (.var 0 32) (.lit 10)) (.lit 1) : Tm).ev σ ≠ 0
            · skip
              by_cases h6 : (Tm.bin .and 32 (.bin .shr 32 (.var 0 32) (.lit 11)) (.lit 1) : Tm).ev σ ≠ 0
              · skip
                by_cases h7 : (Tm.bin .and 32 (.bin .shr 32 (.var 0 32) (.lit 25)) (.lit 1) : Tm).ev σ ≠ 0
                · skip
                  by_cases h8 : (Tm.bin .and 32 (.bin .shr 32 (.var 0 32) (.lit 26)) (.lit 1) : Tm).ev σ ≠ 0
                  · skip
                    by_cases h9 : (Tm.bin .and 32 (.bin .shr 32 (.var 0 32) (.lit 27)) (.lit 1) : Tm).ev σ ≠ 0
                    · skip
                      by_cases h10 : (Tm.bin .and 32 (.bin .shr 32 (.var 0 32) (.lit 28)) (.lit 1) : Tm).ev σ ≠ 0
                      · skip
                        by_cases h11 : (Tm.bin .and 32 (.bin .shr 32 (.var 0 32) (.lit 29)) (.lit 1) : Tm).ev σ ≠ 0
                        · skip
                          by_cases h12 : (Tm.bin .and 32 (.bin .shr 32 (.var 0 32) (.lit 30)) (.lit 1) : Tm).ev σ ≠ 0
                          · skip
                            by_cases h13 : (Tm.bin .and 32 (.bin .shr 32 (.var 0 32) (.lit 7)) (.lit 1) : Tm).ev σ ≠ 0
                            · skip
                              by_cases h14 : (Tm.bin .and 32 (.bin .shr 32 (.var 0 32) (.lit 31)) (.lit 1) : Tm).ev σ ≠ 0
                              · skip
                                exact part_run (svs := ([.int .u32 (.var 0 32), .int .u8 (.var 1 8)], 2)) mixed run26 (fun _ _ h => by cases h) σ (all_cons (not_ne h0) (all_cons (not_ne h1) (all_cons h2 (all_cons h3 (all_cons h4 (all_cons h5 (all_cons h6 (all_cons h7 (all_cons h8 (all_cons h9 (all_cons h10 (all_cons h11 (all_cons h12 (all_cons h13 (all_cons h14 all_nil))))))))))))))) vs w hd
                              · skip
                                exact part_run (svs := ([.int .u32 (.var 0 32), .int .u8 (.var 1 8)], 2)) mixed run27 (fun _ _ h => by cases h) σ (all_cons (not_ne h0) (all_cons (not_ne h1) (all_cons h2 (all_cons h3 (all_cons h4 (all_cons h5 (all_cons h6 (all_cons h7 (all_cons h8 (all_cons h9 (all_cons h10 (all_cons h11 (all_cons h12 (all_cons h13 (all_cons (not_ne h14) all_nil))))))))))))))) vs w hd
                            · skip
                              exact part_run (svs := ([.int .u32 (.var 0 32), .int .u8 (.var 1 8)], 2)) mixed run28 (fun _ _ h => by cases h) σ (all_cons (not_ne h0) (all_cons (not_ne h1) (all_cons h2 (all_cons h3 (all_cons h4 (all_cons h5 (all_cons h6 (all_cons h7 (all_cons h8 (all_cons h9 (all_cons h10 (all_cons h11 (all_cons h12 (all_cons (not_ne h13) all_nil)))))))))))))) vs w hd
                          · skip
                            exact part_run (svs := ([.int .u32 (.var 0 32), .int .u8 (.var 1 8)], 2)) mixed run29 (fun _ _ h => by cases h) σ (all_cons (not_ne h0) (all_cons (not_ne h1) (all_cons h2 (all_cons h3 (all_cons h4 (all_cons h5 (all_cons h6 (all_cons h7 (all_cons h8 (all_cons h9 (all_cons h10 (all_cons h11 (all_cons (not_ne h12) all_nil))))))))))))) vs w hd
                        · skip
                          exact part_run (svs := ([.int .u32 (.var 0 32), .int .u8 (.var 1 8)], 2)) mixed run30 (fun _ _ h => by cases h) σ (all_cons (not_ne h0) (all_cons (not_ne h1) (all_cons h2 (all_cons h3 (all_cons h4 (all_cons h5 (all_cons h6 (all_cons h7 (all_cons h8 (all_cons h9 (all_cons h10 (all_cons (not_ne h11) all_nil)))))))))))) vs w hd
                      · skip
                        exact part_run (svs := ([.int .u32 (.var 0 32), .int .u8 (.var 1 8)], 2)) mixed run31 (fun _ _ h => by cases h) σ (all_cons (not_ne h0) (all_cons (not_ne h1) (all_cons h2 (all_cons h3 (all_cons h4 (all_cons h5 (all_cons h6 (all_cons h7 (all_cons h8 (all_cons h9 (all_cons (not_ne h10) all_nil))))))))))) vs w hd
                    · skip
                      exact part_run (svs := ([.int .u32 (.var 0 32), .int .u8 (.var 1 8)], 2)) mixed run32 (fun _ _ h => by cases h) σ (all_cons (not_ne h0) (all_cons (not_ne h1) (all_cons h2 (all_cons h3 (all_cons h4 (all_cons h5 (all_cons h6 (all_cons h7 (all_cons h8 (all_cons (not_ne h9) all_nil)))))))))) vs w hd
                  · skip
                    exact part_run (svs := ([.int .u32 (.var 0 32), .int .u8 (.var 1 8)], 2)) mixed run33 (fun _ _ h => by cases h) σ (all_cons (not_ne h0) (all_cons (not_ne h1) (all_cons h2 (all_cons h3 (all_cons h4 (all_cons h5 (all_cons h6 (all_cons h7 (all_cons (not_ne h8) all_nil))))))))) vs w hd
                · skip
                  exact part_run (svs := ([.int .u32 (.var 0 32), .int .u8 (.var 1 8)], 2)) mixed run34 (fun _ _ h => by cases h) σ (all_cons (not_ne h0) (all_cons (not_ne h1) (all_cons h2 (all_cons h3 (all_cons h4 (all_cons h5 (all_cons h6 (all_cons (not_ne h7) all_nil)))))))) vs w hd
              · skip
                exact part_run (svs := ([.int .u32 (.var 0 32), .int .u8 (.var 1 8)], 2)) mixed run35 (fun _ _ h => by cases h) σ (all_cons (not_ne h0) (all_cons (not_ne h1) (all_cons h2 (all_cons h3 (all_cons h4 (all_cons h5 (all_cons (not_ne h6) all_nil))))))) vs w hd
            · skip
              exact part_run (svs := ([.int .u32 (.var 0 32), .int .u8 (.var 1 8)], 2)) mixed run36 (fun _ _ h => by cases h) σ (all_cons (not_ne h0) (all_cons (not_ne h1) (all_cons h2 (all_cons h3 (all_cons h4 (all_cons (not_ne h5) all_nil)))))) vs w hd
          · skip
            exact part_run (svs := ([.int .u32 (.var 0 32), .int .u8 (.var 1 8)], 2)) mixed run37 (fun _ _ h => by cases h) σ (all_cons (not_ne h0) (all_cons (not_ne h1) (all_cons h2 (all_cons h3 (all_cons (not_ne h4) all_nil))))) vs w hd
        · skip
          exact part_run (svs := ([.int .u32 (.var 0 32), .int .u8 (.var 1 8)], 2)) mixed run38 (fun _ _ h => by cases h) σ (all_cons (not_ne h0) (all_cons (not_ne h1) (all_cons h2 (all_cons (not_ne h3) all_nil)))) vs w hd
      · skip
        by_cases h3 : (Tm.bin .eq 64 (.bin .srem 64 (.var 1 8) (.lit 5)) (.lit 3) : Tm).ev σ ≠ 0
        · skip
          by_cases h4 : (Tm.bin .and 32 (.bin .shr 32 (.var 0 32) (.lit 12)) (.lit 1) : Tm).ev σ ≠ 0
          · skip
            by_cases h5 : (Tm.bin .and 32 (.bin .shr 32 (.var 0 32) (.lit 13)) (.lit 1) : Tm).ev σ ≠ 0
            · skip
              by_cases h6 : (Tm.bin .and 32 (.bin .shr 32 (.var 0 32) (.lit 14)) (.lit 1) : Tm).ev σ ≠ 0
              · skip
                by_cases h7 : (Tm.bin .and 32 (.bin .shr 32 (.var 0 32) (.lit 15)) (.lit 1) : Tm).ev σ ≠ 0
                · skip
                  by_cases h8 : (Tm.bin .and 32 (.bin .shr 32 (.var 0 32) (.lit 16)) (.lit 1) : Tm).ev σ ≠ 0
                  · skip
                    by_cases h9 : (Tm.bin .and 32 (.bin .shr 32 (.var 0 32) (.lit 17)) (.lit 1) : Tm).ev σ ≠ 0
                    · skip
                      by_cases h10 : (Tm.bin .and 32 (.bin .shr 32 (.var 0 32) (.lit 18)) (.lit 1) : Tm).ev σ ≠ 0
                      · skip
                        by_cases h11 : (Tm.bin .and 32 (.bin .shr 32 (.var 0 32) (.lit 19)) (.lit 1) : Tm).ev σ ≠ 0
                        · skip
                          by_cases h12 : (Tm.bin .and 32 (.bin .shr 32 (.var 0 32) (.lit 20)) (.lit 1) : Tm).ev σ ≠ 0
                          · skip
                            by_cases h13 : (Tm.bin .and 32 (.bin .shr 32 (.var 0 32) (.lit 21)) (.lit 1) : Tm).ev σ ≠ 0
                            · skip
                              by_cases h14 : (Tm.bin .and 32 (.bin .shr 32 (.var 0 32) (.lit 22)) (.lit 1) : Tm).ev σ ≠ 0
                              · skip
                                by_cases h15 : (Tm.bin .and 32 (.bin .shr 32 (.var 0 32) (.lit 23)) (.lit 1) : Tm).ev σ ≠ 0
                                · skip
                                  by_cases h16 : (Tm.bin .and 32 (.bin .shr 32 (.var 0 32) (.lit 24)) (.lit 1) : Tm).ev σ ≠ 0
                                  · skip
                                    by_cases h17 : (Tm.bin .and 32 (.bin .shr 32 (.var 0 32) (.lit 25)) (.lit 1) : Tm).ev σ ≠ 0
                                    · skip
                                      by_cases h18 : (Tm.bin .and 32 (.bin .shr 32 (.var 0 32) (.lit 26)) (.lit 1) : Tm).ev σ ≠ 0
                                      · skip
                                        by_cases h19 : (Tm.bin .and 32 (.bin .shr 32 (.var 0 32) (.lit 27)) (.lit 1) : Tm).ev σ ≠ 0
                                        · skip
                                          by_cases h20 : (Tm.bin .and 32 (.bin .shr 32 (.var 0 32) (.lit 28)) (.lit 1) : Tm).ev σ ≠ 0
                                          · skip
                                            by_cases h21 : (Tm.bin .and 32 (.bin .shr 32 (.var 0 32) (.lit 29)) (.lit 1) : Tm).ev σ ≠ 0
                                            · skip
                                              by_cases h22 : (Tm.bin .and 32 (.bin .shr 32 (.var 0 32) (.lit 30)) (.lit 1) : Tm).ev σ ≠ 0
                                              · skip
                                                by_cases h23 : (Tm.bin .and 32 (.bin .shr 32 (.var 0 32) (.lit 31)) (.lit 1) : Tm).ev σ ≠ 0
                                                · skip
                                                  exact part_run (svs := ([.int .u32 (.var 0 32), .int .u8 (.var 1 8)], 2)) mixed run39 (fun _ _ h => by cases h) σ (all_cons (not_ne h0) (all_cons (not_ne h1) (all_cons (not_ne h2) (all_cons h3 (all_cons h4 (all_cons h5 (all_cons h6 (all_cons h7 (all_cons h8 (all_cons h9 (all_cons h10 (all_cons h11 (all_cons h12 (all_cons h13 (all_cons h14 (all_cons h15 (all_cons h16 (all_cons h17 (all_cons h18 (all_cons h19 (all_cons h20 (all_cons h21 (all_cons h22 (all_cons h23 all_nil)))))))))))))))))))))))) vs w hd
                                                · skip
                                                  exact part_run (svs := ([.int .u32 (.var 0 32), .int .u8 (.var 1 8)], 2)) mixed run40 (fun _ _ h => by cases h) σ (all_cons (not_ne h0) (all_cons (not_ne h1) (all_cons (not_ne h2) (all_cons h3 (all_cons h4 (all_cons h5 (all_cons h6 (all_cons h7 (all_cons h8 (all_cons h9 (all_cons h10 (all_cons h11 (all_cons h12 (all_cons h13 (all_cons h14 (all_cons h15 (all_cons h16 (all_cons h17 (all_cons h18 (all_cons h19 (all_cons h20 (all_cons h21 (all_cons h22 (all_cons (not_ne h23) all_nil)))))))))))))))))))))))) vs w hd
                                              · skip
                                                exact part_run (svs := ([.int .u32 (.var 0 32), .int .u8 (.var 1 8)], 2)) mixed run41 (fun _ _ h => by cases h) σ (all_cons (not_ne h0) (all_cons (not_ne h1) (all_cons (not_ne h2) (all_cons h3 (all_cons h4 (all_cons h5 (all_cons h6 (all_cons h7 (all_cons h8 (all_cons h9 (all_cons h10 (all_cons h11 (all_cons h12 (all_cons h13 (all_cons h14 (all_cons h15 (all_cons h16 (all_cons h17 (all_cons h18 (all_cons h19 (all_cons h20 (all_cons h21 (all_cons (not_ne h22) all_nil))))))))))))))))))))))) vs w hd
                                            · skip
                                              exact part_run (svs := ([.int .u32 (.var 0 32), .int .u8 (.var 1 8)], 2)) mixed run42 (fun _ _ h => by cases h) σ (all_cons (not_ne h0) (all_cons (not_ne h1) (all_cons (not_ne h2) (all_cons h3 (all_cons h4 (all_cons h5 (all_cons h6 (all_cons h7 (all_cons h8 (all_cons h9 (all_cons h10 (all_cons h11 (all_cons h12 (all_cons h13 (all_cons h14 (all_cons h15 (all_cons h16 (all_cons h17 (all_cons h18 (all_cons h19 (all_cons h20 (all_cons (not_ne h21) all_nil)))))))))))))))))))))) vs w hd
                                          · skip
                                            exact part_run (svs := ([.int .u32 (.var 0 32), .int .u8 (.var 1 8)], 2)) mixed run43 (fun _ _ h => by cases h) σ (all_cons (not_ne h0) (all_cons (not_ne h1) (all_cons (not_ne h2) (all_cons h3 (all_cons h4 (all_cons h5 (all_cons h6 (all_cons h7 (all_cons h8 (all_cons h9 (all_cons h10 (all_cons h11 (all_cons h12 (all_cons h13 (all_cons h14 (all_cons h15 (all_cons h16 (all_cons h17 (all_cons h18 (all_cons h19 (all_cons (not_ne h20) all_nil))))))))))))))))))))) vs w hd
                                        · skip
                                          exact part_run (svs := ([.int .u32 (.var 0 32), .int .u8 (.var 1 8)], 2)) mixed run44 (fun _ _ h => by cases h) σ (all_cons (not_ne h0) (all_cons (not_ne h1) (all_cons (not_ne h2) (all_cons h3 (all_cons h4 (all_cons h5 (all_cons h6 (all_cons h7 (all_cons h8 (all_cons h9 (all_cons h10 (all_cons h11 (all_cons h12 (all_cons h13 (all_cons h14 (all_cons h15 (all_cons h16 (all_cons h17 (all_cons h18 (all_cons (not_ne h19) all_nil)))))))))))))))))))) vs w hd
                                      · skip
                                        exact part_run (svs := ([.int .u32 (.var 0 32), .int .u8 (.var 1 8)], 2)) mixed run45 (fun _ _ h => by cases h) σ (all_cons (not_ne h0) (all_cons (not_ne h1) (all_cons (not_ne h2) (all_cons h3 (all_cons h4 (all_cons h5 (all_cons h6 (all_cons h7 (all_cons h8 (all_cons h9 (all_cons h10 (all_cons h11 (all_cons h12 (all_cons h13 (all_cons h14 (all_cons h15 (all_cons h16 (all_cons h17 (all_cons (not_ne h18) all_nil))))))))))))))))))) vs w hd
                                    · skip
                                      exact part_run (svs := ([.int .u32 (.var 0 32), .int .u8 (.var 1 8)], 2)) mixed run46 (fun _ _ h => by cases h) σ (all_cons (not_ne h0) (all_cons (not_ne h1) (all_cons (not_ne h2) (all_cons h3 (all_cons h4 (all_cons h5 (all_cons h6 (all_cons h7 (all_cons h8 (all_cons h9 (all_cons h10 (all_cons h11 (all_cons h12 (all_cons h13 (all_cons h14 (all_cons h15 (all_cons h16 (all_cons (not_ne h17) all_nil)))))))))))))))))) vs w hd
                                  · skip
                                    exact part_run (svs := ([.int .u32 (.var 0 32), .int .u8 (.var 1 8)], 2)) mixed run47 (fun _ _ h => by cases h) σ (all_cons (not_ne h0) (all_cons (not_ne h1) (all_cons (not_ne h2) (all_cons h3 (all_cons h4 (all_cons h5 (all_cons h6 (all_cons h7 (all_cons h8 (all_cons h9 (all_cons h10 (all_cons h11 (all_cons h12 (all_cons h13 (all_cons h14 (all_cons h15 (all_cons (not_ne h16) all_nil))))))))))))))))) vs w hd
                                · skip
                                  exact part_run (svs := ([.int .u32 (.var 0 32), .int .u8 (.var 1 8)], 2)) mixed run48 (fun _ _ h => by cases h) σ (all_cons (not_ne h0) (all_cons (not_ne h1) (all_cons (not_ne h2) (all_cons h3 (all_cons h4 (all_cons h5 (all_cons h6 (all_cons h7 (all_cons h8 (all_cons h9 (all_cons h10 (all_cons h11 (all_cons h12 (all_cons h13 (all_cons h14 (all_cons (not_ne h15) all_nil)))))))))))))))) vs w hd
                              · skip
                                exact part_run (svs := ([.int .u32 (.var 0 32), .int .u8 (.var 1 8)], 2)) mixed run49 (fun _ _ h => by cases h) σ (all_cons (not_ne h0) (all_cons (not_ne h1) (all_cons (not_ne h2) (all_cons h3 (all_cons h4 (all_cons h5 (all_cons h6 (all_cons h7 (all_cons h8 (all_cons h9 (all_cons h10 (all_cons h11 (all_cons h12 (all_cons h13 (all_cons (not_ne h14) all_nil))))))))))))))) vs w hd
                            · skip
                              exact part_run (svs := ([.int .u32 (.var 0 32), .int .u8 (.var 1 8)], 2)) mixed run50 (fun _ _ h => by cases h) σ (all_cons (not_ne h0) (all_cons (not_ne h1) (all_cons (not_ne h2) (all_cons h3 (all_cons h4 (all_cons h5 (all_cons h6 (all_cons h7 (all_cons h8 (all_cons h9 (all_cons h10 (all_cons h11 (all_cons h12 (all_cons (not_ne h13) all_nil)))))))))))))) vs w hd
                          · skip
                            exact part_run (svs := ([.int .u32 (.var 0 32), .int .u8 (.var 1 8)], 2)) mixed run51 (fun _ _ h => by cases h) σ (all_cons (not_ne h0) (all_cons (not_ne h1) (all_cons (not_ne h2) (all_cons h3 (all_cons h4 (all_cons h5 (all_cons h6 (all_cons h7 (all_cons h8 (all_cons h9 (all_cons h10 (all_cons h11 (all_cons (not_ne h12) all_nil))))))))))))) vs w hd
                        · skip
                          exact part_run (svs := ([.int .u32 (.var 0 32), .int .u8 (.var 1 8)], 2)) mixed run52 (fun _ _ h => by cases h) σ (all_cons (not_ne h0) (all_cons (not_ne h1) (all_cons (not_ne h2) (all_cons h3 (all_cons h4 (all_cons h5 (all_cons h6 (all_cons h7 (all_cons h8 (all_cons h9 (all_cons h10 (all_cons (not_ne h11) all_nil)))))))))))) vs w hd
                      · skip
                        exact part_run (svs := ([.int .u32 (.var 0 32), .int .u8 (.var 1 8)], 2)) mixed run53 (fun _ _ h => by cases h) σ (all_cons (not_ne h0) (all_cons (not_ne h1) (all_cons (not_ne h2) (all_cons h3 (all_cons h4 (all_cons h5 (all_cons h6 (all_cons h7 (all_cons h8 (all_cons h9 (all_cons (not_ne h10) all_nil))))))))))) vs w hd
                    · skip
                      exact part_run (svs := ([.int .u32 (.var 0 32), .int .u8 (.var 1 8)], 2)) mixed run54 (fun _ _ h => by cases h) σ (all_cons (not_ne h0) (all_cons (not_ne h1) (all_cons (not_ne h2) (all_cons h3 (all_cons h4 (all_cons h5 (all_cons h6 (all_cons h7 (all_cons h8 (all_cons (not_ne h9) all_nil)))))))))) vs w hd
                  · skip
                    exact part_run (svs := ([.int .u32 (.var 0 32), .int .u8 (.var 1 8)], 2)) mixed run55 (fun _ _ h => by cases h) σ (all_cons (not_ne h0) (all_cons (not_ne h1) (all_cons (not_ne h2) (all_cons h3 (all_cons h4 (all_cons h5 (all_cons h6 (all_cons h7 (all_cons (not_ne h8) all_nil))))))))) vs w hd
                · skip
                  exact part_run (svs := ([.int .u32 (.var 0 32), .int .u8 (.var 1 8)], 2)) mixed run56 (fun _ _ h => by cases h) σ (all_cons (not_ne h0) (all_cons (not_ne h1) (all_cons (not_ne h2) (all_cons h3 (all_cons h4 (all_cons h5 (all_cons h6 (all_cons (not_ne h7) all_nil)))))))) vs w hd
              · skip
                exact part_run (svs := ([.int .u32 (.var 0 32), .int .u8 (.var 1 8)], 2)) mixed run57 (fun _ _ h => by cases h) σ (all_cons (not_ne h0) (all_cons (not_ne h1) (all_cons (not_ne h2) (all_cons h3 (all_cons h4 (all_cons h5 (all_cons (not_ne h6) all_nil))))))) vs w hd
            · skip
              exact part_run (svs := ([.int .u32 (.var 0 32), .int .u8 (.var 1 8)], 2)) mixed run58 (fun _ _ h => by cases h) σ (all_cons (not_ne h0) (all_cons (not_ne h1) (all_cons (not_ne h2) (all_cons h3 (all_cons h4 (all_cons (not_ne h5) all_nil)))))) vs w hd
          · skip
            exact part_run (svs := ([.int .u32 (.var 0 32), .int .u8 (.var 1 8)], 2)) mixed run59 (fun _ _ h => by cases h) σ (all_cons (not_ne h0) (all_cons (not_ne h1) (all_cons (not_ne h2) (all_cons h3 (all_cons (not_ne h4) all_nil))))) vs w hd
        · skip
          by_cases h4 : (Tm.bin .eq 64 (.bin .srem 64 (.var 1 8) (.lit 5)) (.lit 4) : Tm).ev σ ≠ 0
          · skip
            by_cases h5 : (Tm.bin .and 32 (.bin .shr 32 (.var 0 32) (.lit 21)) (.lit 1) : Tm).ev σ ≠ 0
            · skip
              by_cases h6 : (Tm.bin .and 32 (.bin .shr 32 (.var 0 32) (.lit 22)) (.lit 1) : Tm).ev σ ≠ 0
              · skip
                by_cases h7 : (Tm.bin .and 32 (.bin .shr 32 (.var 0 32) (.lit 23)) (.lit 1) : Tm).ev σ ≠ 0
                · skip
                  by_cases h8 : (Tm.bin .and 32 (.bin .shr 32 (.var 0 32) (.lit 24)) (.lit 1) : Tm).ev σ ≠ 0
                  · skip
                    by_cases h9 : (Tm.bin .and 32 (.bin .shr 32 (.var 0 32) (.lit 25)) (.lit 1) : Tm).ev σ ≠ 0
                    · skip
                      by_cases h10 : (Tm.bin .and 32 (.bin .shr 32 (.var 0 32) (.lit 26)) (.lit 1) : Tm).ev σ ≠ 0
                      · skip
                        by_cases h11 : (Tm.bin .and 32 (.bin .shr 32 (.var 0 32) (.lit 27)) (.lit 1) : Tm).ev σ ≠ 0
                        · skip
                          by_cases h12 : (Tm.bin .and 32 (.bin .shr 32 (.var 0 32) (.lit 28)) (.lit 1) : Tm).ev σ ≠ 0
                          · skip
                            by_cases h13 : (Tm.bin .and 32 (.bin .shr 32 (.var 0 32) (.lit 29)) (.lit 1) : Tm).ev σ ≠ 0
                            · skip
                              by_cases h14 : (Tm.bin .and 32 (.bin .shr 32 (.var 0 32) (.lit 30)) (.lit 1) : Tm).ev σ ≠ 0
                              · skip
                                by_cases h15 : (Tm.bin .and 32 (.bin .shr 32 (.var 0 32) (.lit 20)) (.lit 1) : Tm).ev σ ≠ 0
                                · skip
                                  by_cases h16 : (Tm.bin .and 32 (.bin .shr 32 (.var 0 32) (.lit 12)) (.lit 1) : Tm).ev σ ≠ 0
                                  · skip
                                    by_cases h17 : (Tm.bin .and 32 (.bin .shr 32 (.var 0 32) (.lit 13)) (.lit 1) : Tm).ev σ ≠ 0
                                    · skip
                                      by_cases h18 : (Tm.bin .and 32 (.bin .shr 32 (.var 0 32) (.lit 14)) (.lit 1) : Tm).ev σ ≠ 0
                                      · skip
                                        by_cases h19 : (Tm.bin .and 32 (.bin .shr 32 (.var 0 32) (.lit 15)) (.lit 1) : Tm).ev σ ≠ 0
                                        · skip
                                          by_cases h20 : (Tm.bin .and 32 (.bin .shr 32 (.var 0 32) (.lit 16)) (.lit 1) : Tm).ev σ ≠ 0
                                          · skip
                                            by_cases h21 : (Tm.bin .and 32 (.bin .shr 32 (.var 0 32) (.lit 17)) (.lit 1) : Tm).ev σ ≠ 0
                                            · skip
                                              by_cases h22 : (Tm.bin .and 32 (.bin .shr 32 (.var 0 32) (.lit 18)) (.lit 1) : Tm).ev σ ≠ 0
                                              · skip
                                                by_cases h23 : (Tm.bin .and 32 (.bin .shr 32 (.var 0 32) (.lit 19)) (.lit 1) : Tm).ev σ ≠ 0
                                                · skip
                                                  by_cases h24 : (Tm.bin .and 32 (.bin .shr 32 (.var 0 32) (.lit 31)) (.lit 1) : Tm).ev σ ≠ 0
                                                  · skip
                                                    exact part_run (svs := ([.int .u32 (.var 0 32), .int .u8 (.var 1 8)], 2)) mixed run60 (fun _ _ h => by cases h) σ (all_cons (not_ne h0) (all_cons (not_ne h1) (all_cons (not_ne h2) (all_cons (not_ne h3) (all_cons h4 (all_cons h5 (all_cons h6 (all_cons h7 (all_cons h8 (all_cons h9 (all_cons h10 (all_cons h11 (all_cons h12 (all_cons h13 (all_cons h14 (all_cons h15 (all_cons h16 (all_cons h17 (all_cons h18 (all_cons h19 (all_cons h20 (all_cons h21 (all_cons h22 (all_cons h23 (all_cons h24 all_nil))))))))))))))))))))))))) vs w hd
                                                  · skip
                                                    exact part_run (svs := ([.int .u32 (.var 0 32), .int .u8 (.var 1 8)], 2)) mixed run61 (fun _ _ h => by cases h) σ (all_cons (not_ne h0) (all_cons (not_ne h1) (all_cons (not_ne h2) (all_cons (not_ne h3) (all_cons h4 (all_cons h5 (all_cons h6 (all_cons h7 (all_cons h8 (all_cons h9 (all_cons h10 (all_cons h11 (all_cons h12 (all_cons h13 (all_cons h14 (all_cons h15 (all_cons h16 (all_cons h17 (all_cons h18 (all_cons h19 (all_cons h20 (all_cons h21 (all_cons h22 (all_cons h23 (all_cons (not_ne h24) all_nil))))))))))))))))))))))))) vs w hd
                                                · skip
                                                  exact part_run (svs := ([.int .u32 (.var 0 32), .int .u8 (.var 1 8)], 2)) mixed run62 (fun _ _ h => by cases h) σ (all_cons (not_ne h0) (all_cons (not_ne h1) (all_cons (not_ne h2) (all_cons (not_ne h3) (all_cons h4 (all_cons h5 (all_cons h6 (all_cons h7 (all_cons h8 (all_cons h9 (all_cons h10 (all_cons h11 (all_cons h12 (all_cons h13 (all_cons h14 (all_cons h15 (all_cons h16 (all_cons h17 (all_cons h18 (all_cons h19 (all_cons h20 (all_cons h21 (all_cons h22 (all_cons (not_ne h23) all_nil)))))))))))))))))))))))) vs w hd
                                              · skip
                                                exact part_run (svs := ([.int .u32 (.var 0 32), .int .u8 (.var 1 8)], 2)) mixed run63 (fun _ _ h => by cases h) σ (all_cons (not_ne h0) (all_cons (not_ne h1) (all_cons (not_ne h2) (all_cons (not_ne h3) (all_cons h4 (all_cons h5 (all_cons h6 (all_cons h7 (all_cons h8 (all_cons h9 (all_cons h10 (all_cons h11 (all_cons h12 (all_cons h13 (all_cons h14 (all_cons h15 (all_cons h16 (all_cons h17 (all_cons h18 (all_cons h19 (all_cons h20 (all_cons h21 (all_cons (not_ne h22) all_nil))))))))))))))))))))))) vs w hd
                                            · skip
                                              exact part_run (svs := ([.int .u32 (.var 0 32), .int .u8 (.var 1 8)], 2)) mixed run64 (fun _ _ h => by cases h) σ (all_cons (not_ne h0) (all_cons (not_ne h1) (all_cons (not_ne h2) (all_cons (not_ne h3) (all_cons h4 (all_cons h5 (all_cons h6 (all_cons h7 (all_cons h8 (all_cons h9 (all_cons h10 (all_cons h11 (all_cons h12 (all_cons h13 (all_cons h14 (all_cons h15 (all_cons h16 (all_cons h17 (all_cons h18 (all_cons h19 (all_cons h20 (all_cons (not_ne h21) all_nil)))))))))))))))))))))) vs w hd
                                          · skip
                                            exact part_run (svs := ([.int .u32 (.var 0 32), .int .u8 (.var 1 8)], 2)) mixed run65 (fun _ _ h => by cases h) σ (all_cons (not_ne h0) (all_cons (not_ne h1) (all_cons (not_ne h2) (all_cons (not_ne h3) (all_cons h4 (all_cons h5 (all_cons h6 (all_cons h7 (all_cons h8 (all_cons h9 (all_cons h10 (all_cons h11 (all_cons h12 (all_cons h13 (all_cons h14 (all_cons h15 (all_cons h16 (all_cons h17 (all_cons h18 (all_cons h19 (all_cons (not_ne h20) all_nil))))))))))))))))))))) vs w hd
                                        · skip
                                          exact part_run (svs := ([.int .u32 (.var 0 32), .int .u8 (.var 1 8)], 2)) mixed run66 (fun _ _ h => by cases h) σ (all_cons (not_ne h0) (all_cons (not_ne h1) (all_cons (not_ne h2) (all_cons (not_ne h3) (all_cons h4 (all_cons h5 (all_cons h6 (all_cons h7 (all_cons h8 (all_cons h9 (all_cons h10 (all_cons h11 (all_cons h12 (all_cons h13 (all_cons h14 (all_cons h15 (all_cons h16 (all_cons h17 (all_cons h18 (all_cons (not_ne h19) all_nil)))))))))))))))))))) vs w hd
                                      · skip
                                        exact part_run (svs := ([.int .u32 (.var 0 32), .int .u8 (.var 1 8)], 2)) mixed run67 (fun _ _ h => by cases h) σ (all_cons (not_ne h0) (all_cons (not_ne h1) (all_cons (not_ne h2) (all_cons (not_ne h3) (all_cons h4 (all_cons h5 (all_cons h6 (all_cons h7 (all_cons h8 (all_cons h9 (all_cons h10 (all_cons h11 (all_cons h12 (all_cons h13 (all_cons h14 (all_cons h15 (all_cons h16 (all_cons h17 (all_cons (not_ne h18) all_nil))))))))))))))))))) vs w hd
                                    · skip
                                      exact part_run (svs := ([.int .u32 (.var 0 32), .int .u8 (.var 1 8)], 2)) mixed run68 (fun _ _ h => by cases h) σ (all_cons (not_ne h0) (all_cons (not_ne h1) (all_cons (not_ne h2) (all_cons (not_ne h3) (all_cons h4 (all_cons h5 (all_cons h6 (all_cons h7 (all_cons h8 (all_cons h9 (all_cons h10 (all_cons h11 (all_cons h12 (all_cons h13 (all_cons h14 (all_cons h15 (all_cons h16 (all_cons (not_ne h17) all_nil)))))))))))))))))) vs w hd
                                  · skip
                                    exact part_run (svs := ([.int .u32 (.var 0 32), .int .u8 (.var 1 8)], 2)) mixed run69 (fun _ _ h => by cases h) σ (all_cons (not_ne h0) (all_cons (not_ne h1) (all_cons (not_ne h2) (all_cons (not_ne h3) (all_cons h4 (all_cons h5 (all_cons h6 (all_cons h7 (all_cons h8 (all_cons h9 (all_cons h10 (all_cons h11 (all_cons h12 (all_cons h13 (all_cons h14 (all_cons h15 (all_cons (not_ne h16) all_nil))))))))))))))))) vs w hd
                                · skip
                                  exact part_run (svs := ([.int .u32 (.var 0 32), .int .u8 (.var 1 8)], 2)) mixed run70 (fun _ _ h => by cases h) σ (all_cons (not_ne h0) (all_cons (not_ne h1) (all_cons (not_ne h2) (all_cons (not_ne h3) (all_cons h4 (all_cons h5 (all_cons h6 (all_cons h7 (all_cons h8 (all_cons h9 (all_cons h10 (all_cons h11 (all_cons h12 (all_cons h13 (all_cons h14 (all_cons (not_ne h15) all_nil)))))))))))))))) vs w hd
                              · skip
                                exact part_run (svs := ([.int .u32 (.var 0 32), .int .u8 (.var 1 8)], 2)) mixed run71 (fun _ _ h => by cases h) σ (all_cons (not_ne h0) (all_cons (not_ne h1) (all_cons (not_ne h2) (all_cons (not_ne h3) (all_cons h4 (all_cons h5 (all_cons h6 (all_cons h7 (all_cons h8 (all_cons h9 (all_cons h10 (all_cons h11 (all_cons h12 (all_cons h13 (all_cons (not_ne h14) all_nil))))))))))))))) vs w hd
                            · skip
                              exact part_run (svs := ([.int .u32 (.var 0 32), .int .u8 (.var 1 8)], 2)) mixed run72 (fun _ _ h => by cases h) σ (all_cons (not_ne h0) (all_cons (not_ne h1) (all_cons (not_ne h2) (all_cons (not_ne h3) (all_cons h4 (all_cons h5 (all_cons h6 (all_cons h7 (all_cons h8 (all_cons h9 (all_cons h10 (all_cons h11 (all_cons h12 (all_cons (not_ne h13) all_nil)))))))))))))) vs w hd
                          · skip
                            exact part_run (svs := ([.int .u32 (.var 0 32), .int .u8 (.var 1 8)], 2)) mixed run73 (fun _ _ h => by cases h) σ (all_cons (not_ne h0) (all_cons (not_ne h1) (all_cons (not_ne h2) (all_cons (not_ne h3) (all_cons h4 (all_cons h5 (all_cons h6 (all_cons h7 (all_cons h8 (all_cons h9 (all_cons h10 (all_cons h11 (all_cons (not_ne h12) all_nil))))))))))))) vs w hd
                        · skip
                          exact part_run (svs := ([.int .u32 (.var 0 32), .int .u8 (.var 1 8)], 2)) mixed run74 (fun _ _ h => by cases h) σ (all_cons (not_ne h0) (all_cons (not_ne h1) (all_cons (not_ne h2) (all_cons (not_ne h3) (all_cons h4 (all_cons h5 (all_cons h6 (all_cons h7 (all_cons h8 (all_cons h9 (all_cons h10 (all_cons (not_ne h11) all_nil)))))))))))) vs w hd
                      · skip
                        exact part_run (svs := ([.int .u32 (.var 0 32), .int .u8 (.var 1 8)], 2)) mixed run75 (fun _ _ h => by cases h) σ (all_cons (not_ne h0) (all_cons (not_ne h1) (all_cons (not_ne h2) (all_cons (not_ne h3) (all_cons h4 (all_cons h5 (all_cons h6 (all_cons h7 (all_cons h8 (all_cons h9 (all_cons (not_ne h10) all_nil))))))))))) vs w hd
                    · skip
                      exact part_run (svs := ([.int .u32 (.var 0 32), .int .u8 (.var 1 8)], 2)) mixed run76 (fun _ _ h => by cases h) σ (all_cons (not_ne h0) (all_cons (not_ne h1) (all_cons (not_ne h2) (all_cons (not_ne h3) (all_cons h4 (all_cons h5 (all_cons h6 (all_cons h7 (all_cons h8 (all_cons (not_ne h9) all_nil)))))))))) vs w hd
                  · skip
                    exact part_run (svs := ([.int .u32 (.var 0 32), .int .u8 (.var 1 8)], 2)) mixed run77 (fun _ _ h => by cases h) σ (all_cons (not_ne h0) (all_cons (not_ne h1) (all_cons (not_ne h2) (all_cons (not_ne h3) (all_cons h4 (all_cons h5 (all_cons h6 (all_cons h7 (all_cons (not_ne h8) all_nil))))))))) vs w hd
                · skip
                  exact part_run (svs := ([.int .u32 (.var 0 32), .int .u8 (.var 1 8)], 2)) mixed run78 (fun _ _ h => by cases h) σ (all_cons (not_ne h0) (all_cons (not_ne h1) (all_cons (not_ne h2) (all_cons (not_ne h3) (all_cons h4 (all_cons h5 (all_cons h6 (all_cons (not_ne h7) all_nil)))))))) vs w hd
              · skip
                exact part_run (svs := ([.int .u32 (.var 0 32), .int .u8 (.var 1 8)], 2)) mixed run79 (fun _ _ h => by cases h) σ (all_cons (not_ne h0) (all_cons (not_ne h1) (all_cons (not_ne h2) (all_cons (not_ne h3) (all_cons h4 (all_cons h5 (all_cons (not_ne h6) all_nil))))))) vs w hd
            · skip
              exact part_run (svs := ([.int .u32 (.var 0 32), .int .u8 (.var 1 8)], 2)) mixed run80 (fun _ _ h => by cases h) σ (all_cons (not_ne h0) (all_cons (not_ne h1) (all_cons (not_ne h2) (all_cons (not_ne h3) (all_cons h4 (all_cons (not_ne h5) all_nil)))))) vs w hd
          · skip
            exact absurd (in_rng (σ := σ) (t := (.bin .srem 64 (.var 1 8) (.lit 5))) (lo := 0) (hi := 4) (by kernel_rfl)) (by
              have a0 := ne_of_eqT h0
              have a1 := ne_of_eqT h1
              have a2 := ne_of_eqT h2
              have a3 := ne_of_eqT h3
              have a4 := ne_of_eqT h4
              omega)
set_option maxRecDepth 100000 in
theorem lifted (os : Os) (started : os.Started) (H : Type) (enc : TypeId × Value → H) :
    ReturnsInHanded {} Try.checked os 3 .any (Rows.fieldBackSpec.pre6 enc Try.prog Try.f3 Rows.fieldBackRow.domain false) (Rows.fieldBackSpec.post enc Try.prog Try.f3 false true false false) := by
  refine returnsInHanded_of_change (C := Try.checked) own started (by kernel_rfl) Try.func3
    (ChangeSpec.witness6 (enc := enc) (C := Try.checked) false ⟨#[], #[.int .u32 0, .int .u8 0], []⟩ 8 (by kernel_rfl) (by kernel_rfl) (by kernel_rfl) (by kernel_rfl)) ?_
  intro W base args ds gs before hval hW _ _
  exact law_contract (P := Try.prog) laidOut sym runs (by kernel_rfl) rfl (by rfl) Try.underlying4
    (fun ds h => by
      have h' : ds.length = 2 := by rw [h, Try.params3]; rfl
      match ds, h' with | [d0, d1], _ => rfl) W base args ds gs before hval hW
theorem over : Rows.fieldBackRow.holds Try.pinned (OpenSpec.ofChange Rows.fieldBackSpec) :=
  OpenClaim.holds_of_wide 3 Try.f3 rfl rfl rfl rfl rfl rfl rfl ⟨rfl, rfl, rfl, rfl, rfl⟩ rfl rfl rfl rfl rfl (by kernel_rfl) Try.func3 (by kernel_rfl)
    (of_decide_eq_true (by kernel_rfl)) (by unfold Func.isWrapper; first | (rw [if_pos (by decide +kernel)]; kernel_rfl) | (rw [if_neg (by decide +kernel)]; exact ⟨rfl, rfl⟩))
    (fun os started H enc _ => lifted os started H enc)
theorem proved : Rows.FieldBackSaid := over
#print axioms proved
end Go.Proofs.Ytcnaapegjhlcdaa.FieldBack
namespace Go.Proofs.Ytcnaapegjhlcdaa
/-- The row, under a short name, for the claim. -/
theorem fieldBack_holds : Rows.FieldBackSaid := FieldBack.proved
end Go.Proofs.Ytcnaapegjhlcdaa
