/-
  CodecB: contracts of functions of the program, and what follows from them.
-/
import Derived.Test.YtjmkgpkgagohoaaTyCodec
import Derived.Test.YtjmkgpkgagohoaaCodecA
set_option linter.all false
namespace Go.Proofs.Ytjmkgpkgagohoaa
open Go Go.Dk
set_option linter.unusedSimpArgs false
set_option linter.unusedVariables false
set_option maxRecDepth 10000

theorem Writer_Long (bs : List UInt8) (n : Nat) (hn : n < 18446744073709551616) (hl : bs.length < 1000000000000) :
    (Con.mk [.ptr 1000 0, .v (.int .u64 n)] [(1000, .cells [.slc 1001 1 0 (bs).length]), (1001, .cells (cellsB (bs)))] [1000] (.tup []) [(1000, .cells [.slc 1001 1 0 (bs ++ highB n 8).length]), (1001, .cells (cellsB (bs ++ highB n 8)))]).ok Try.prog 52 := by
  refine ⟨?_, by simp [Con.wf, ids, inA, inM, inB, inL_nil, inL_cons, inL_append, inL_cellsB, inL_dat]⟩
  refine con_of_ev true [0, 1] 7 Try.func52 (code := _) rfl rfl Try.ntmps52 (by simp) [] (by rw [Try.results52]) ?_
  simp (maxSteps := 2000000) (disch := omega) only [go_sem, Int.reduceEq, Int.reduceNe, Nat.reduceBEq, Nat.reduceLT, Nat.reduceLeDiff, Nat.reduceAdd, Nat.reduceSub, Nat.reduceMul, Nat.reduceEqDiff, Int.reduceLT, Int.reduceLE, Int.reduceNeg, Int.reduceToNat, Int.reduceAdd, Int.reduceSub, ↓reduceIte, reduceCtorEq]
  refine awCall_con [] [] (Writer_high bs n 8 (by omega) (by omega) hl) (by kernel_rfl) (.inl rfl) (by simp [go_sem]) (by simp [go_sem]) ?_; rintro _ rfl; simp (maxSteps := 2000000) (disch := omega) only [go_sem, Int.reduceEq, Int.reduceNe, Nat.reduceBEq, Nat.reduceLT, Nat.reduceLeDiff, Nat.reduceAdd, Nat.reduceSub, Nat.reduceMul, Nat.reduceEqDiff, Int.reduceLT, Int.reduceLE, Int.reduceNeg, Int.reduceToNat, Int.reduceAdd, Int.reduceSub, ↓reduceIte, reduceCtorEq]
  exact fin_normal (by rfl) (by simp [subMem, Dk.find])

theorem Writer_Var (bs : List UInt8) (n : Nat) (hn : n < 18446744073709551616) (hl : bs.length < 900000000000) :
    (Con.mk [.ptr 1000 0, .v (.int .u64 n)] [(1000, .cells [.slc 1001 1 0 (bs).length]), (1001, .cells (cellsB (bs)))] [1000] (.tup []) [(1000, .cells [.slc 1001 1 0 (bs ++ varB n).length]), (1001, .cells (cellsB (bs ++ varB n)))]).ok Try.prog 20 := by
  refine ⟨?_, by simp [Con.wf, ids, inA, inM, inB, inL_nil, inL_cons, inL_append, inL_cellsB, inL_dat]⟩
  refine con_of_ev true [0, 1, 9, 16, 24] 32 Try.func20 (code := _) rfl rfl Try.ntmps20 (by simp) [] (by rw [Try.results20]) ?_
  simp (maxSteps := 2000000) (disch := omega) only [go_sem, Int.reduceEq, Int.reduceNe, Nat.reduceBEq, Nat.reduceLT, Nat.reduceLeDiff, Nat.reduceAdd, Nat.reduceSub, Nat.reduceMul, Nat.reduceEqDiff, Int.reduceLT, Int.reduceLE, Int.reduceNeg, Int.reduceToNat, Int.reduceAdd, Int.reduceSub, ↓reduceIte, reduceCtorEq]
  refine awIf2_dec (fun h1 => ?_) (fun h1 => ?_)
  · simp (maxSteps := 2000000) (disch := omega) only [go_sem, Int.reduceEq, Int.reduceNe, Nat.reduceBEq, Nat.reduceLT, Nat.reduceLeDiff, Nat.reduceAdd, Nat.reduceSub, Nat.reduceMul, Nat.reduceEqDiff, Int.reduceLT, Int.reduceLE, Int.reduceNeg, Int.reduceToNat, Int.reduceAdd, Int.reduceSub, ↓reduceIte, reduceCtorEq]
    refine awCall_con [] [] (Writer_Byte bs (UInt8.ofNat n) (by omega)) (by kernel_rfl) (.inl rfl) (by simp [go_sem, show ((n : Int) % 256) = n from by omega]) (by simp [go_sem, show ((n : Int) % 256) = n from by omega]) ?_; rintro _ rfl; simp (maxSteps := 2000000) (disch := omega) only [go_sem, Int.reduceEq, Int.reduceNe, Nat.reduceBEq, Nat.reduceLT, Nat.reduceLeDiff, Nat.reduceAdd, Nat.reduceSub, Nat.reduceMul, Nat.reduceEqDiff, Int.reduceLT, Int.reduceLE, Int.reduceNeg, Int.reduceToNat, Int.reduceAdd, Int.reduceSub, ↓reduceIte, reduceCtorEq]
    exact fin_normal (by rfl) (by simp [subMem, Dk.find, varB, show n < 253 from by omega])
  · simp (maxSteps := 2000000) (disch := omega) only [go_sem, Int.reduceEq, Int.reduceNe, Nat.reduceBEq, Nat.reduceLT, Nat.reduceLeDiff, Nat.reduceAdd, Nat.reduceSub, Nat.reduceMul, Nat.reduceEqDiff, Int.reduceLT, Int.reduceLE, Int.reduceNeg, Int.reduceToNat, Int.reduceAdd, Int.reduceSub, ↓reduceIte, reduceCtorEq]
    refine awIf2_dec (fun h2 => ?_) (fun h2 => ?_)
    · simp (maxSteps := 2000000) (disch := omega) only [go_sem, Int.reduceEq, Int.reduceNe, Nat.reduceBEq, Nat.reduceLT, Nat.reduceLeDiff, Nat.reduceAdd, Nat.reduceSub, Nat.reduceMul, Nat.reduceEqDiff, Int.reduceLT, Int.reduceLE, Int.reduceNeg, Int.reduceToNat, Int.reduceAdd, Int.reduceSub, ↓reduceIte, reduceCtorEq]
      refine awCall_con [] [] (Writer_Byte bs 253 (by omega)) (by kernel_rfl) (.inl rfl) (by simp [go_sem]) (by simp [go_sem]) ?_; rintro _ rfl; simp (maxSteps := 2000000) (disch := omega) only [go_sem, Int.reduceEq, Int.reduceNe, Nat.reduceBEq, Nat.reduceLT, Nat.reduceLeDiff, Nat.reduceAdd, Nat.reduceSub, Nat.reduceMul, Nat.reduceEqDiff, Int.reduceLT, Int.reduceLE, Int.reduceNeg, Int.reduceToNat, Int.reduceAdd, Int.reduceSub, ↓reduceIte, reduceCtorEq]
      refine awCall_con [] [] (Writer_high (bs ++ [253]) n 2 (by omega) (by omega) (by simp; omega)) (by kernel_rfl) (.inl rfl) (by simp [go_sem]) (by simp [go_sem]) ?_; rintro _ rfl; simp (maxSteps := 2000000) (disch := omega) only [go_sem, Int.reduceEq, Int.reduceNe, Nat.reduceBEq, Nat.reduceLT, Nat.reduceLeDiff, Nat.reduceAdd, Nat.reduceSub, Nat.reduceMul, Nat.reduceEqDiff, Int.reduceLT, Int.reduceLE, Int.reduceNeg, Int.reduceToNat, Int.reduceAdd, Int.reduceSub, ↓reduceIte, reduceCtorEq]
      exact fin_normal (by rfl) (by simp [subMem, Dk.find, varB, show ¬ n < 253 from by omega, show n ≤ 65535 from by omega])
    · simp (maxSteps := 2000000) (disch := omega) only [go_sem, Int.reduceEq, Int.reduceNe, Nat.reduceBEq, Nat.reduceLT, Nat.reduceLeDiff, Nat.reduceAdd, Nat.reduceSub, Nat.reduceMul, Nat.reduceEqDiff, Int.reduceLT, Int.reduceLE, Int.reduceNeg, Int.reduceToNat, Int.reduceAdd, Int.reduceSub, ↓reduceIte, reduceCtorEq]
      refine awIf2_dec (fun h3 => ?_) (fun h3 => ?_)
      · simp (maxSteps := 2000000) (disch := omega) only [go_sem, Int.reduceEq, Int.reduceNe, Nat.reduceBEq, Nat.reduceLT, Nat.reduceLeDiff, Nat.reduceAdd, Nat.reduceSub, Nat.reduceMul, Nat.reduceEqDiff, Int.reduceLT, Int.reduceLE, Int.reduceNeg, Int.reduceToNat, Int.reduceAdd, Int.reduceSub, ↓reduceIte, reduceCtorEq]
        refine awCall_con [] [] (Writer_Byte bs 254 (by omega)) (by kernel_rfl) (.inl rfl) (by simp [go_sem]) (by simp [go_sem]) ?_; rintro _ rfl; simp (maxSteps := 2000000) (disch := omega) only [go_sem, Int.reduceEq, Int.reduceNe, Nat.reduceBEq, Nat.reduceLT, Nat.reduceLeDiff, Nat.reduceAdd, Nat.reduceSub, Nat.reduceMul, Nat.reduceEqDiff, Int.reduceLT, Int.reduceLE, Int.reduceNeg, Int.reduceToNat, Int.reduceAdd, Int.reduceSub, ↓reduceIte, reduceCtorEq]
        refine awCall_con [] [] (Writer_high (bs ++ [254]) n 4 (by omega) (by omega) (by simp; omega)) (by kernel_rfl) (.inl rfl) (by simp [go_sem]) (by simp [go_sem]) ?_; rintro _ rfl; simp (maxSteps := 2000000) (disch := omega) only [go_sem, Int.reduceEq, Int.reduceNe, Nat.reduceBEq, Nat.reduceLT, Nat.reduceLeDiff, Nat.reduceAdd, Nat.reduceSub, Nat.reduceMul, Nat.reduceEqDiff, Int.reduceLT, Int.reduceLE, Int.reduceNeg, Int.reduceToNat, Int.reduceAdd, Int.reduceSub, ↓reduceIte, reduceCtorEq]
        exact fin_normal (by rfl) (by simp [subMem, Dk.find, varB, show ¬ n < 253 from by omega, show ¬ n ≤ 65535 from by omega, show n ≤ 4294967295 from by omega])
      · simp (maxSteps := 2000000) (disch := omega) only [go_sem, Int.reduceEq, Int.reduceNe, Nat.reduceBEq, Nat.reduceLT, Nat.reduceLeDiff, Nat.reduceAdd, Nat.reduceSub, Nat.reduceMul, Nat.reduceEqDiff, Int.reduceLT, Int.reduceLE, Int.reduceNeg, Int.reduceToNat, Int.reduceAdd, Int.reduceSub, ↓reduceIte, reduceCtorEq]
        refine awCall_con [] [] (Writer_Byte bs 255 (by omega)) (by kernel_rfl) (.inl rfl) (by simp [go_sem]) (by simp [go_sem]) ?_; rintro _ rfl; simp (maxSteps := 2000000) (disch := omega) only [go_sem, Int.reduceEq, Int.reduceNe, Nat.reduceBEq, Nat.reduceLT, Nat.reduceLeDiff, Nat.reduceAdd, Nat.reduceSub, Nat.reduceMul, Nat.reduceEqDiff, Int.reduceLT, Int.reduceLE, Int.reduceNeg, Int.reduceToNat, Int.reduceAdd, Int.reduceSub, ↓reduceIte, reduceCtorEq]
        refine awCall_con [] [] (Writer_high (bs ++ [255]) n 8 (by omega) (by omega) (by simp; omega)) (by kernel_rfl) (.inl rfl) (by simp [go_sem]) (by simp [go_sem]) ?_; rintro _ rfl; simp (maxSteps := 2000000) (disch := omega) only [go_sem, Int.reduceEq, Int.reduceNe, Nat.reduceBEq, Nat.reduceLT, Nat.reduceLeDiff, Nat.reduceAdd, Nat.reduceSub, Nat.reduceMul, Nat.reduceEqDiff, Int.reduceLT, Int.reduceLE, Int.reduceNeg, Int.reduceToNat, Int.reduceAdd, Int.reduceSub, ↓reduceIte, reduceCtorEq]
        exact fin_normal (by rfl) (by simp [subMem, Dk.find, varB, show ¬ n < 253 from by omega, show ¬ n ≤ 65535 from by omega, show ¬ n ≤ 4294967295 from by omega])

theorem Writer_Raw (bs cs : List UInt8) (hl : bs.length + cs.length < 1000000000000) :
    (Con.mk [.ptr 1000 0, .imm false 1 (rowsB cs)] [(1000, .cells [.slc 1001 1 0 (bs).length]), (1001, .cells (cellsB (bs)))] [1000] (.tup []) [(1000, .cells [.slc 1001 1 0 (bs ++ cs).length]), (1001, .cells (cellsB (bs ++ cs)))]).ok Try.prog 53 := by
  refine ⟨?_, by simp [Con.wf, ids, inA, inM, inB, inL_nil, inL_cons, inL_append, inL_cellsB, inL_dat]⟩
  refine con_of_ev true [0, 1] 13 Try.func53 (code := _) rfl rfl Try.ntmps53 (by simp) [] (by rw [Try.results53]) ?_
  simp (maxSteps := 2000000) (disch := omega) only [go_sem, Int.reduceEq, Int.reduceNe, Nat.reduceBEq, Nat.reduceLT, Nat.reduceLeDiff, Nat.reduceAdd, Nat.reduceSub, Nat.reduceMul, Nat.reduceEqDiff, Int.reduceLT, Int.reduceLE, Int.reduceNeg, Int.reduceToNat, Int.reduceAdd, Int.reduceSub, ↓reduceIte, reduceCtorEq]
  rw [List.take_length]
  exact fin_normal (by rfl) (by simp [subMem, Dk.find, cellsB_append])

theorem Writer_Text (bs cs : List UInt8) (hl : bs.length + cs.length < 900000000000) :
    (Con.mk [.ptr 1000 0, .imm false 1 (rowsB cs)] [(1000, .cells [.slc 1001 1 0 (bs).length]), (1001, .cells (cellsB (bs)))] [1000] (.tup []) [(1000, .cells [.slc 1001 1 0 (bs ++ varB cs.length ++ cs).length]), (1001, .cells (cellsB (bs ++ varB cs.length ++ cs)))]).ok Try.prog 45 := by
  refine ⟨?_, by simp [Con.wf, ids, inA, inM, inB, inL_nil, inL_cons, inL_append, inL_cellsB, inL_dat]⟩
  refine con_of_ev true [0, 1] 12 Try.func45 (code := _) rfl rfl Try.ntmps45 (by simp) [] (by rw [Try.results45]) ?_
  simp (maxSteps := 2000000) (disch := omega) only [go_sem, Int.reduceEq, Int.reduceNe, Nat.reduceBEq, Nat.reduceLT, Nat.reduceLeDiff, Nat.reduceAdd, Nat.reduceSub, Nat.reduceMul, Nat.reduceEqDiff, Int.reduceLT, Int.reduceLE, Int.reduceNeg, Int.reduceToNat, Int.reduceAdd, Int.reduceSub, ↓reduceIte, reduceCtorEq]
  refine awCall_con [] [] (Writer_Var bs cs.length (by omega) (by omega)) (by kernel_rfl) (.inl rfl) (by simp [go_sem]) (by simp [go_sem]) ?_; rintro _ rfl; simp (maxSteps := 2000000) (disch := omega) only [go_sem, Int.reduceEq, Int.reduceNe, Nat.reduceBEq, Nat.reduceLT, Nat.reduceLeDiff, Nat.reduceAdd, Nat.reduceSub, Nat.reduceMul, Nat.reduceEqDiff, Int.reduceLT, Int.reduceLE, Int.reduceNeg, Int.reduceToNat, Int.reduceAdd, Int.reduceSub, ↓reduceIte, reduceCtorEq]
  refine awCall_con [] [] (Writer_Raw (bs ++ varB cs.length) cs (by have := varB_length cs.length; simp; omega)) (by kernel_rfl) (.inl rfl) (by simp [go_sem]) (by simp [go_sem]) ?_; rintro _ rfl; simp (maxSteps := 2000000) (disch := omega) only [go_sem, Int.reduceEq, Int.reduceNe, Nat.reduceBEq, Nat.reduceLT, Nat.reduceLeDiff, Nat.reduceAdd, Nat.reduceSub, Nat.reduceMul, Nat.reduceEqDiff, Int.reduceLT, Int.reduceLE, Int.reduceNeg, Int.reduceToNat, Int.reduceAdd, Int.reduceSub, ↓reduceIte, reduceCtorEq]
  exact fin_normal (by rfl) (by simp [subMem, Dk.find])

theorem Writer_Len (bs : List UInt8) :
    (Con.mk [.ptr 1000 0] [(1000, .cells [.slc 1001 1 0 (bs).length]), (1001, .cells (cellsB (bs)))] [1000] (.v (.int .i64 bs.length)) [(1000, .cells [.slc 1001 1 0 (bs).length]), (1001, .cells (cellsB (bs)))]).ok Try.prog 25 := by
  refine ⟨?_, by simp [Con.wf, ids, inA, inM, inB, inL_nil, inL_cons, inL_append, inL_cellsB, inL_dat]⟩
  refine con_of_ev true [0, 2] 8 Try.func25 (code := _) rfl rfl Try.ntmps25 (by simp) [.tmp 2] (by rw [Try.results25]) ?_
  simp (maxSteps := 2000000) (disch := omega) only [go_sem, Int.reduceEq, Int.reduceNe, Nat.reduceBEq, Nat.reduceLT, Nat.reduceLeDiff, Nat.reduceAdd, Nat.reduceSub, Nat.reduceMul, Nat.reduceEqDiff, Int.reduceLT, Int.reduceLE, Int.reduceNeg, Int.reduceToNat, Int.reduceAdd, Int.reduceSub, ↓reduceIte, reduceCtorEq]
  exact fin_ret (by rfl) (by simp [subMem, Dk.find])
end Go.Proofs.Ytjmkgpkgagohoaa
