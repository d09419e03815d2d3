/-
  CodecE: contracts of functions of the program, and what follows from them.
-/
import Derived.Test.YtjmkgpkgagohoaaTyCodec
import Derived.Test.YtjmkgpkgagohoaaCodecD
set_option linter.all false
namespace Go.Proofs.Ytjmkgpkgagohoaa
open Go Go.Dk
set_option linter.unusedSimpArgs false
set_option linter.unusedVariables false
set_option maxRecDepth 10000

theorem Reader_high' (rs : List UInt8) (e : Int) (n : Nat) (hl : rs.length < 1000000000000) (hn : n ≤ 8) {n1 : Nat} {rs1 : List UInt8} {e1 : Int} (h : highR n (rs, e) = (n1, rs1, e1)) :
    (Con.mk [.ptr 1000 0, .v (.int .i64 n)] [(1000, .cells [.imm false 1 (rowsB (rs)), .v (.int .i64 (e))])] [1000] (.v (.int .u64 n1)) [(1000, .cells [.imm false 1 (rowsB (rs1)), .v (.int .i64 (e1))])]).ok Try.prog 48 := by
  have := Reader_high rs e n hl hn
  simp only [highR, Prod.mk.injEq] at h
  obtain ⟨h1, h2⟩ := h
  rw [h1, h2] at this
  exact this

set_option maxHeartbeats 2000000 in
theorem Reader_Var (rs : List UInt8) (e : Int) (most : Nat) (hl : rs.length < 1000000000000) {n2 : Nat} {rs2 : List UInt8} {e2 : Int} (hv : varR most (rs, e) = (n2, rs2, e2)) :
    (Con.mk [.ptr 1000 0, .v (.int .u64 most)] [(1000, .cells [.imm false 1 (rowsB (rs)), .v (.int .i64 (e))])] [1000] (.v (.int .u64 n2)) [(1000, .cells [.imm false 1 (rowsB (rs2)), .v (.int .i64 (e2))])]).ok Try.prog 17 := by
  refine ⟨?_, by simp [Con.wf, ids, inA, inM, inB, inL_nil, inL_cons, inL_append, inL_cellsB, inL_dat]⟩
  obtain ⟨n1, rs1, e1, h1⟩ : ∃ n1 rs1 e1, highR 1 (rs, e) = (n1, rs1, e1) := ⟨_, _, _, rfl⟩
  have hl1 := highR_le h1
  unfold varR var1 at hv
  rw [h1] at hv
  dsimp only at hv hl1
  by_cases c253 : n1 = 253
  · have c253' : (n1 : Int) = 253 := by omega
    obtain ⟨n3, rs3, e3, h3⟩ : ∃ n3 rs3 e3, highR 2 (rs1, e1) = (n3, rs3, e3) := ⟨_, _, _, rfl⟩
    rw [if_pos c253, h3] at hv
    simp only [varFin] at hv
    refine con_of_ev true [0, 1, 4, 5, 6, 7, 14, 15, 19, 23, 28, 34, 41] 52 Try.func17 (code := _) rfl rfl Try.ntmps17 (by simp) [.tmp 4] (by rw [Try.results17]) ?_
    simp (maxSteps := 2000000) (disch := omega) only [go_sem, Int.reduceEq, Int.reduceNe, Nat.reduceBEq, Nat.reduceLT, Nat.reduceLeDiff, Nat.reduceAdd, Nat.reduceSub, Nat.reduceMul, Nat.reduceEqDiff, Int.reduceLT, Int.reduceLE, Int.reduceNeg, Int.reduceToNat, Int.reduceAdd, Int.reduceSub, ↓reduceIte, reduceCtorEq]
    refine awCall_con [] [] (Reader_high' rs e 1 hl (by omega) h1) (by kernel_rfl) (.inl rfl) (by simp [go_sem]) (by simp [go_sem]) ?_; rintro _ rfl; simp (maxSteps := 2000000) (disch := omega) only [go_sem, Int.reduceEq, Int.reduceNe, Nat.reduceBEq, Nat.reduceLT, Nat.reduceLeDiff, Nat.reduceAdd, Nat.reduceSub, Nat.reduceMul, Nat.reduceEqDiff, Int.reduceLT, Int.reduceLE, Int.reduceNeg, Int.reduceToNat, Int.reduceAdd, Int.reduceSub, ↓reduceIte, reduceCtorEq]
    simp only [decide_eq_true c253']
    simp (maxSteps := 2000000) (disch := omega) only [go_sem, Int.reduceEq, Int.reduceNe, Nat.reduceBEq, Nat.reduceLT, Nat.reduceLeDiff, Nat.reduceAdd, Nat.reduceSub, Nat.reduceMul, Nat.reduceEqDiff, Int.reduceLT, Int.reduceLE, Int.reduceNeg, Int.reduceToNat, Int.reduceAdd, Int.reduceSub, ↓reduceIte, reduceCtorEq, decide_eq_true c253']
    refine awCall_con [] [] (Reader_high' rs1 e1 2 (by omega) (by omega) h3) (by kernel_rfl) (.inl rfl) (by simp [go_sem]) (by simp [go_sem]) ?_; rintro _ rfl; simp (maxSteps := 2000000) (disch := omega) only [go_sem, Int.reduceEq, Int.reduceNe, Nat.reduceBEq, Nat.reduceLT, Nat.reduceLeDiff, Nat.reduceAdd, Nat.reduceSub, Nat.reduceMul, Nat.reduceEqDiff, Int.reduceLT, Int.reduceLE, Int.reduceNeg, Int.reduceToNat, Int.reduceAdd, Int.reduceSub, ↓reduceIte, reduceCtorEq]
    by_cases g1 : e3 = 0
    · subst g1
      rw [if_neg (by simp)] at hv
      by_cases g2 : n3 < 253
      · rw [if_pos g2] at hv
        simp only [Prod.mk.injEq] at hv
        obtain ⟨rfl, rfl, rfl⟩ := hv
        simp (maxSteps := 2000000) (disch := omega) only [go_sem, Int.reduceEq, Int.reduceNe, Nat.reduceBEq, Nat.reduceLT, Nat.reduceLeDiff, Nat.reduceAdd, Nat.reduceSub, Nat.reduceMul, Nat.reduceEqDiff, Int.reduceLT, Int.reduceLE, Int.reduceNeg, Int.reduceToNat, Int.reduceAdd, Int.reduceSub, ↓reduceIte, reduceCtorEq, decide_eq_true (show (n3 : Int) < 253 from by omega)]
        exact fin_ret (by rfl) (by simp [subMem, Dk.find])
      · rw [if_neg g2] at hv
        by_cases g3 : most < n3
        · rw [if_pos g3] at hv
          simp only [Prod.mk.injEq] at hv
          obtain ⟨rfl, rfl, rfl⟩ := hv
          simp (maxSteps := 2000000) (disch := omega) only [go_sem, Int.reduceEq, Int.reduceNe, Nat.reduceBEq, Nat.reduceLT, Nat.reduceLeDiff, Nat.reduceAdd, Nat.reduceSub, Nat.reduceMul, Nat.reduceEqDiff, Int.reduceLT, Int.reduceLE, Int.reduceNeg, Int.reduceToNat, Int.reduceAdd, Int.reduceSub, ↓reduceIte, reduceCtorEq, decide_eq_false (show ¬ (n3 : Int) < 253 from by omega), decide_eq_true (show (most : Int) < n3 from by omega)]
          exact fin_ret (by rfl) (by simp [subMem, Dk.find])
        · rw [if_neg g3] at hv
          simp only [Prod.mk.injEq] at hv
          obtain ⟨rfl, rfl, rfl⟩ := hv
          simp (maxSteps := 2000000) (disch := omega) only [go_sem, Int.reduceEq, Int.reduceNe, Nat.reduceBEq, Nat.reduceLT, Nat.reduceLeDiff, Nat.reduceAdd, Nat.reduceSub, Nat.reduceMul, Nat.reduceEqDiff, Int.reduceLT, Int.reduceLE, Int.reduceNeg, Int.reduceToNat, Int.reduceAdd, Int.reduceSub, ↓reduceIte, reduceCtorEq, decide_eq_false (show ¬ (n3 : Int) < 253 from by omega), decide_eq_false (show ¬ (most : Int) < n3 from by omega)]
          exact fin_ret (by rfl) (by simp [subMem, Dk.find])
    · rw [if_pos g1] at hv
      simp only [Prod.mk.injEq] at hv
      obtain ⟨rfl, rfl, rfl⟩ := hv
      simp (maxSteps := 2000000) (disch := omega) only [go_sem, Int.reduceEq, Int.reduceNe, Nat.reduceBEq, Nat.reduceLT, Nat.reduceLeDiff, Nat.reduceAdd, Nat.reduceSub, Nat.reduceMul, Nat.reduceEqDiff, Int.reduceLT, Int.reduceLE, Int.reduceNeg, Int.reduceToNat, Int.reduceAdd, Int.reduceSub, ↓reduceIte, reduceCtorEq, decide_eq_false g1]
      exact fin_ret (by rfl) (by simp [subMem, Dk.find])
  ·
    by_cases c254 : n1 = 254
    · have c254' : (n1 : Int) = 254 := by omega
      obtain ⟨n3, rs3, e3, h3⟩ : ∃ n3 rs3 e3, highR 4 (rs1, e1) = (n3, rs3, e3) := ⟨_, _, _, rfl⟩
      rw [if_neg c253, if_pos c254, h3] at hv
      simp only [varFin] at hv
      refine con_of_ev true [0, 1, 4, 5, 6, 7, 14, 15, 19, 23, 28, 34, 41] 52 Try.func17 (code := _) rfl rfl Try.ntmps17 (by simp) [.tmp 4] (by rw [Try.results17]) ?_
      simp (maxSteps := 2000000) (disch := omega) only [go_sem, Int.reduceEq, Int.reduceNe, Nat.reduceBEq, Nat.reduceLT, Nat.reduceLeDiff, Nat.reduceAdd, Nat.reduceSub, Nat.reduceMul, Nat.reduceEqDiff, Int.reduceLT, Int.reduceLE, Int.reduceNeg, Int.reduceToNat, Int.reduceAdd, Int.reduceSub, ↓reduceIte, reduceCtorEq]
      refine awCall_con [] [] (Reader_high' rs e 1 hl (by omega) h1) (by kernel_rfl) (.inl rfl) (by simp [go_sem]) (by simp [go_sem]) ?_; rintro _ rfl; simp (maxSteps := 2000000) (disch := omega) only [go_sem, Int.reduceEq, Int.reduceNe, Nat.reduceBEq, Nat.reduceLT, Nat.reduceLeDiff, Nat.reduceAdd, Nat.reduceSub, Nat.reduceMul, Nat.reduceEqDiff, Int.reduceLT, Int.reduceLE, Int.reduceNeg, Int.reduceToNat, Int.reduceAdd, Int.reduceSub, ↓reduceIte, reduceCtorEq]
      simp only [decide_eq_true c254', decide_eq_false (show ¬ (n1 : Int) = 253 from by omega)]
      simp (maxSteps := 2000000) (disch := omega) only [go_sem, Int.reduceEq, Int.reduceNe, Nat.reduceBEq, Nat.reduceLT, Nat.reduceLeDiff, Nat.reduceAdd, Nat.reduceSub, Nat.reduceMul, Nat.reduceEqDiff, Int.reduceLT, Int.reduceLE, Int.reduceNeg, Int.reduceToNat, Int.reduceAdd, Int.reduceSub, ↓reduceIte, reduceCtorEq, decide_eq_true c254', decide_eq_false (show ¬ (n1 : Int) = 253 from by omega)]
      refine awCall_con [] [] (Reader_high' rs1 e1 4 (by omega) (by omega) h3) (by kernel_rfl) (.inl rfl) (by simp [go_sem]) (by simp [go_sem]) ?_; rintro _ rfl; simp (maxSteps := 2000000) (disch := omega) only [go_sem, Int.reduceEq, Int.reduceNe, Nat.reduceBEq, Nat.reduceLT, Nat.reduceLeDiff, Nat.reduceAdd, Nat.reduceSub, Nat.reduceMul, Nat.reduceEqDiff, Int.reduceLT, Int.reduceLE, Int.reduceNeg, Int.reduceToNat, Int.reduceAdd, Int.reduceSub, ↓reduceIte, reduceCtorEq]
      by_cases g1 : e3 = 0
      · subst g1
        rw [if_neg (by simp)] at hv
        by_cases g2 : n3 < 65536
        · rw [if_pos g2] at hv
          simp only [Prod.mk.injEq] at hv
          obtain ⟨rfl, rfl, rfl⟩ := hv
          simp (maxSteps := 2000000) (disch := omega) only [go_sem, Int.reduceEq, Int.reduceNe, Nat.reduceBEq, Nat.reduceLT, Nat.reduceLeDiff, Nat.reduceAdd, Nat.reduceSub, Nat.reduceMul, Nat.reduceEqDiff, Int.reduceLT, Int.reduceLE, Int.reduceNeg, Int.reduceToNat, Int.reduceAdd, Int.reduceSub, ↓reduceIte, reduceCtorEq, decide_eq_true (show (n3 : Int) < 65536 from by omega)]
          exact fin_ret (by rfl) (by simp [subMem, Dk.find])
        · rw [if_neg g2] at hv
          by_cases g3 : most < n3
          · rw [if_pos g3] at hv
            simp only [Prod.mk.injEq] at hv
            obtain ⟨rfl, rfl, rfl⟩ := hv
            simp (maxSteps := 2000000) (disch := omega) only [go_sem, Int.reduceEq, Int.reduceNe, Nat.reduceBEq, Nat.reduceLT, Nat.reduceLeDiff, Nat.reduceAdd, Nat.reduceSub, Nat.reduceMul, Nat.reduceEqDiff, Int.reduceLT, Int.reduceLE, Int.reduceNeg, Int.reduceToNat, Int.reduceAdd, Int.reduceSub, ↓reduceIte, reduceCtorEq, decide_eq_false (show ¬ (n3 : Int) < 65536 from by omega), decide_eq_true (show (most : Int) < n3 from by omega)]
            exact fin_ret (by rfl) (by simp [subMem, Dk.find])
          · rw [if_neg g3] at hv
            simp only [Prod.mk.injEq] at hv
            obtain ⟨rfl, rfl, rfl⟩ := hv
            simp (maxSteps := 2000000) (disch := omega) only [go_sem, Int.reduceEq, Int.reduceNe, Nat.reduceBEq, Nat.reduceLT, Nat.reduceLeDiff, Nat.reduceAdd, Nat.reduceSub, Nat.reduceMul, Nat.reduceEqDiff, Int.reduceLT, Int.reduceLE, Int.reduceNeg, Int.reduceToNat, Int.reduceAdd, Int.reduceSub, ↓reduceIte, reduceCtorEq, decide_eq_false (show ¬ (n3 : Int) < 65536 from by omega), decide_eq_false (show ¬ (most : Int) < n3 from by omega)]
            exact fin_ret (by rfl) (by simp [subMem, Dk.find])
      · rw [if_pos g1] at hv
        simp only [Prod.mk.injEq] at hv
        obtain ⟨rfl, rfl, rfl⟩ := hv
        simp (maxSteps := 2000000) (disch := omega) only [go_sem, Int.reduceEq, Int.reduceNe, Nat.reduceBEq, Nat.reduceLT, Nat.reduceLeDiff, Nat.reduceAdd, Nat.reduceSub, Nat.reduceMul, Nat.reduceEqDiff, Int.reduceLT, Int.reduceLE, Int.reduceNeg, Int.reduceToNat, Int.reduceAdd, Int.reduceSub, ↓reduceIte, reduceCtorEq, decide_eq_false g1]
        exact fin_ret (by rfl) (by simp [subMem, Dk.find])
    ·
      by_cases c255 : n1 = 255
      · have c255' : (n1 : Int) = 255 := by omega
        obtain ⟨n3, rs3, e3, h3⟩ : ∃ n3 rs3 e3, highR 8 (rs1, e1) = (n3, rs3, e3) := ⟨_, _, _, rfl⟩
        rw [if_neg c253, if_neg c254, if_pos c255, h3] at hv
        simp only [varFin] at hv
        refine con_of_ev true [0, 1, 4, 5, 6, 7, 14, 15, 19, 23, 28, 34, 41] 52 Try.func17 (code := _) rfl rfl Try.ntmps17 (by simp) [.tmp 4] (by rw [Try.results17]) ?_
        simp (maxSteps := 2000000) (disch := omega) only [go_sem, Int.reduceEq, Int.reduceNe, Nat.reduceBEq, Nat.reduceLT, Nat.reduceLeDiff, Nat.reduceAdd, Nat.reduceSub, Nat.reduceMul, Nat.reduceEqDiff, Int.reduceLT, Int.reduceLE, Int.reduceNeg, Int.reduceToNat, Int.reduceAdd, Int.reduceSub, ↓reduceIte, reduceCtorEq]
        refine awCall_con [] [] (Reader_high' rs e 1 hl (by omega) h1) (by kernel_rfl) (.inl rfl) (by simp [go_sem]) (by simp [go_sem]) ?_; rintro _ rfl; simp (maxSteps := 2000000) (disch := omega) only [go_sem, Int.reduceEq, Int.reduceNe, Nat.reduceBEq, Nat.reduceLT, Nat.reduceLeDiff, Nat.reduceAdd, Nat.reduceSub, Nat.reduceMul, Nat.reduceEqDiff, Int.reduceLT, Int.reduceLE, Int.reduceNeg, Int.reduceToNat, Int.reduceAdd, Int.reduceSub, ↓reduceIte, reduceCtorEq]
        simp only [decide_eq_true c255', decide_eq_false (show ¬ (n1 : Int) = 253 from by omega), decide_eq_false (show ¬ (n1 : Int) = 254 from by omega)]
        simp (maxSteps := 2000000) (disch := omega) only [go_sem, Int.reduceEq, Int.reduceNe, Nat.reduceBEq, Nat.reduceLT, Nat.reduceLeDiff, Nat.reduceAdd, Nat.reduceSub, Nat.reduceMul, Nat.reduceEqDiff, Int.reduceLT, Int.reduceLE, Int.reduceNeg, Int.reduceToNat, Int.reduceAdd, Int.reduceSub, ↓reduceIte, reduceCtorEq, decide_eq_true c255', decide_eq_false (show ¬ (n1 : Int) = 253 from by omega), decide_eq_false (show ¬ (n1 : Int) = 254 from by omega)]
        refine awCall_con [] [] (Reader_high' rs1 e1 8 (by omega) (by omega) h3) (by kernel_rfl) (.inl rfl) (by simp [go_sem]) (by simp [go_sem]) ?_; rintro _ rfl; simp (maxSteps := 2000000) (disch := omega) only [go_sem, Int.reduceEq, Int.reduceNe, Nat.reduceBEq, Nat.reduceLT, Nat.reduceLeDiff, Nat.reduceAdd, Nat.reduceSub, Nat.reduceMul, Nat.reduceEqDiff, Int.reduceLT, Int.reduceLE, Int.reduceNeg, Int.reduceToNat, Int.reduceAdd, Int.reduceSub, ↓reduceIte, reduceCtorEq]
        by_cases g1 : e3 = 0
        · subst g1
          rw [if_neg (by simp)] at hv
          by_cases g2 : n3 < 4294967296
          · rw [if_pos g2] at hv
            simp only [Prod.mk.injEq] at hv
            obtain ⟨rfl, rfl, rfl⟩ := hv
            simp (maxSteps := 2000000) (disch := omega) only [go_sem, Int.reduceEq, Int.reduceNe, Nat.reduceBEq, Nat.reduceLT, Nat.reduceLeDiff, Nat.reduceAdd, Nat.reduceSub, Nat.reduceMul, Nat.reduceEqDiff, Int.reduceLT, Int.reduceLE, Int.reduceNeg, Int.reduceToNat, Int.reduceAdd, Int.reduceSub, ↓reduceIte, reduceCtorEq, decide_eq_true (show (n3 : Int) < 4294967296 from by omega)]
            exact fin_ret (by rfl) (by simp [subMem, Dk.find])
          · rw [if_neg g2] at hv
            by_cases g3 : most < n3
            · rw [if_pos g3] at hv
              simp only [Prod.mk.injEq] at hv
              obtain ⟨rfl, rfl, rfl⟩ := hv
              simp (maxSteps := 2000000) (disch := omega) only [go_sem, Int.reduceEq, Int.reduceNe, Nat.reduceBEq, Nat.reduceLT, Nat.reduceLeDiff, Nat.reduceAdd, Nat.reduceSub, Nat.reduceMul, Nat.reduceEqDiff, Int.reduceLT, Int.reduceLE, Int.reduceNeg, Int.reduceToNat, Int.reduceAdd, Int.reduceSub, ↓reduceIte, reduceCtorEq, decide_eq_false (show ¬ (n3 : Int) < 4294967296 from by omega), decide_eq_true (show (most : Int) < n3 from by omega)]
              exact fin_ret (by rfl) (by simp [subMem, Dk.find])
            · rw [if_neg g3] at hv
              simp only [Prod.mk.injEq] at hv
              obtain ⟨rfl, rfl, rfl⟩ := hv
              simp (maxSteps := 2000000) (disch := omega) only [go_sem, Int.reduceEq, Int.reduceNe, Nat.reduceBEq, Nat.reduceLT, Nat.reduceLeDiff, Nat.reduceAdd, Nat.reduceSub, Nat.reduceMul, Nat.reduceEqDiff, Int.reduceLT, Int.reduceLE, Int.reduceNeg, Int.reduceToNat, Int.reduceAdd, Int.reduceSub, ↓reduceIte, reduceCtorEq, decide_eq_false (show ¬ (n3 : Int) < 4294967296 from by omega), decide_eq_false (show ¬ (most : Int) < n3 from by omega)]
              exact fin_ret (by rfl) (by simp [subMem, Dk.find])
        · rw [if_pos g1] at hv
          simp only [Prod.mk.injEq] at hv
          obtain ⟨rfl, rfl, rfl⟩ := hv
          simp (maxSteps := 2000000) (disch := omega) only [go_sem, Int.reduceEq, Int.reduceNe, Nat.reduceBEq, Nat.reduceLT, Nat.reduceLeDiff, Nat.reduceAdd, Nat.reduceSub, Nat.reduceMul, Nat.reduceEqDiff, Int.reduceLT, Int.reduceLE, Int.reduceNeg, Int.reduceToNat, Int.reduceAdd, Int.reduceSub, ↓reduceIte, reduceCtorEq, decide_eq_false g1]
          exact fin_ret (by rfl) (by simp [subMem, Dk.find])
      ·
        rw [if_neg c253, if_neg c254, if_neg c255] at hv
        simp only [varFin] at hv
        refine con_of_ev true [0, 1, 4, 5, 6, 7, 14, 15, 19, 23, 28, 34, 41] 52 Try.func17 (code := _) rfl rfl Try.ntmps17 (by simp) [.tmp 4] (by rw [Try.results17]) ?_
        simp (maxSteps := 2000000) (disch := omega) only [go_sem, Int.reduceEq, Int.reduceNe, Nat.reduceBEq, Nat.reduceLT, Nat.reduceLeDiff, Nat.reduceAdd, Nat.reduceSub, Nat.reduceMul, Nat.reduceEqDiff, Int.reduceLT, Int.reduceLE, Int.reduceNeg, Int.reduceToNat, Int.reduceAdd, Int.reduceSub, ↓reduceIte, reduceCtorEq]
        refine awCall_con [] [] (Reader_high' rs e 1 hl (by omega) h1) (by kernel_rfl) (.inl rfl) (by simp [go_sem]) (by simp [go_sem]) ?_; rintro _ rfl; simp (maxSteps := 2000000) (disch := omega) only [go_sem, Int.reduceEq, Int.reduceNe, Nat.reduceBEq, Nat.reduceLT, Nat.reduceLeDiff, Nat.reduceAdd, Nat.reduceSub, Nat.reduceMul, Nat.reduceEqDiff, Int.reduceLT, Int.reduceLE, Int.reduceNeg, Int.reduceToNat, Int.reduceAdd, Int.reduceSub, ↓reduceIte, reduceCtorEq]
        simp (maxSteps := 2000000) (disch := omega) only [go_sem, Int.reduceEq, Int.reduceNe, Nat.reduceBEq, Nat.reduceLT, Nat.reduceLeDiff, Nat.reduceAdd, Nat.reduceSub, Nat.reduceMul, Nat.reduceEqDiff, Int.reduceLT, Int.reduceLE, Int.reduceNeg, Int.reduceToNat, Int.reduceAdd, Int.reduceSub, ↓reduceIte, reduceCtorEq, decide_eq_false (show ¬ (n1 : Int) = 253 from by omega), decide_eq_false (show ¬ (n1 : Int) = 254 from by omega), decide_eq_false (show ¬ (n1 : Int) = 255 from by omega)]
        by_cases g1 : e1 = 0
        · subst g1
          rw [if_neg (by simp)] at hv
          by_cases g2 : n1 < 0
          · rw [if_pos g2] at hv
            simp only [Prod.mk.injEq] at hv
            obtain ⟨rfl, rfl, rfl⟩ := hv
            simp (maxSteps := 2000000) (disch := omega) only [go_sem, Int.reduceEq, Int.reduceNe, Nat.reduceBEq, Nat.reduceLT, Nat.reduceLeDiff, Nat.reduceAdd, Nat.reduceSub, Nat.reduceMul, Nat.reduceEqDiff, Int.reduceLT, Int.reduceLE, Int.reduceNeg, Int.reduceToNat, Int.reduceAdd, Int.reduceSub, ↓reduceIte, reduceCtorEq, decide_eq_true (show (n1 : Int) < 0 from by omega)]
            exact fin_ret (by rfl) (by simp [subMem, Dk.find])
          · rw [if_neg g2] at hv
            by_cases g3 : most < n1
            · rw [if_pos g3] at hv
              simp only [Prod.mk.injEq] at hv
              obtain ⟨rfl, rfl, rfl⟩ := hv
              simp (maxSteps := 2000000) (disch := omega) only [go_sem, Int.reduceEq, Int.reduceNe, Nat.reduceBEq, Nat.reduceLT, Nat.reduceLeDiff, Nat.reduceAdd, Nat.reduceSub, Nat.reduceMul, Nat.reduceEqDiff, Int.reduceLT, Int.reduceLE, Int.reduceNeg, Int.reduceToNat, Int.reduceAdd, Int.reduceSub, ↓reduceIte, reduceCtorEq, decide_eq_false (show ¬ (n1 : Int) < 0 from by omega), decide_eq_true (show (most : Int) < n1 from by omega)]
              exact fin_ret (by rfl) (by simp [subMem, Dk.find])
            · rw [if_neg g3] at hv
              simp only [Prod.mk.injEq] at hv
              obtain ⟨rfl, rfl, rfl⟩ := hv
              simp (maxSteps := 2000000) (disch := omega) only [go_sem, Int.reduceEq, Int.reduceNe, Nat.reduceBEq, Nat.reduceLT, Nat.reduceLeDiff, Nat.reduceAdd, Nat.reduceSub, Nat.reduceMul, Nat.reduceEqDiff, Int.reduceLT, Int.reduceLE, Int.reduceNeg, Int.reduceToNat, Int.reduceAdd, Int.reduceSub, ↓reduceIte, reduceCtorEq, decide_eq_false (show ¬ (n1 : Int) < 0 from by omega), decide_eq_false (show ¬ (most : Int) < n1 from by omega)]
              exact fin_ret (by rfl) (by simp [subMem, Dk.find])
        · rw [if_pos g1] at hv
          simp only [Prod.mk.injEq] at hv
          obtain ⟨rfl, rfl, rfl⟩ := hv
          simp (maxSteps := 2000000) (disch := omega) only [go_sem, Int.reduceEq, Int.reduceNe, Nat.reduceBEq, Nat.reduceLT, Nat.reduceLeDiff, Nat.reduceAdd, Nat.reduceSub, Nat.reduceMul, Nat.reduceEqDiff, Int.reduceLT, Int.reduceLE, Int.reduceNeg, Int.reduceToNat, Int.reduceAdd, Int.reduceSub, ↓reduceIte, reduceCtorEq, decide_eq_false g1]
          exact fin_ret (by rfl) (by simp [subMem, Dk.find])

theorem Reader_Err (rs : List UInt8) (e : Int) :
    (Con.mk [.ptr 1000 0] [(1000, .cells [.imm false 1 (rowsB (rs)), .v (.int .i64 (e))])] [1000] (.v (.int .i64 e)) [(1000, .cells [.imm false 1 (rowsB (rs)), .v (.int .i64 (e))])]).ok Try.prog 18 := by
  refine ⟨?_, by simp [Con.wf, ids, inA, inM, inB, inL_nil, inL_cons, inL_append, inL_cellsB, inL_dat]⟩
  refine con_of_ev true [0, 2] 7 Try.func18 (code := _) rfl rfl Try.ntmps18 (by simp) [.tmp 2] (by rw [Try.results18]) ?_
  simp (maxSteps := 2000000) (disch := omega) only [go_sem, Int.reduceEq, Int.reduceNe, Nat.reduceBEq, Nat.reduceLT, Nat.reduceLeDiff, Nat.reduceAdd, Nat.reduceSub, Nat.reduceMul, Nat.reduceEqDiff, Int.reduceLT, Int.reduceLE, Int.reduceNeg, Int.reduceToNat, Int.reduceAdd, Int.reduceSub, ↓reduceIte, reduceCtorEq]
  exact fin_ret (by rfl) (by simp [subMem, Dk.find])

theorem Reader_Left (rs : List UInt8) (e : Int) :
    (Con.mk [.ptr 1000 0] [(1000, .cells [.imm false 1 (rowsB (rs)), .v (.int .i64 (e))])] [1000] (.v (.int .i64 rs.length)) [(1000, .cells [.imm false 1 (rowsB (rs)), .v (.int .i64 (e))])]).ok Try.prog 19 := by
  refine ⟨?_, by simp [Con.wf, ids, inA, inM, inB, inL_nil, inL_cons, inL_append, inL_cellsB, inL_dat]⟩
  refine con_of_ev true [0, 2] 8 Try.func19 (code := _) rfl rfl Try.ntmps19 (by simp) [.tmp 2] (by rw [Try.results19]) ?_
  simp (maxSteps := 2000000) (disch := omega) only [go_sem, Int.reduceEq, Int.reduceNe, Nat.reduceBEq, Nat.reduceLT, Nat.reduceLeDiff, Nat.reduceAdd, Nat.reduceSub, Nat.reduceMul, Nat.reduceEqDiff, Int.reduceLT, Int.reduceLE, Int.reduceNeg, Int.reduceToNat, Int.reduceAdd, Int.reduceSub, ↓reduceIte, reduceCtorEq]
  exact fin_ret (by rfl) (by simp [subMem, Dk.find])
end Go.Proofs.Ytjmkgpkgagohoaa
