/-
  CodecF: contracts of functions of the program, and what follows from them.
-/
import Derived.Test.YtjmkgpkgagohoaaTyCodec
import Derived.Test.YtjmkgpkgagohoaaCodecE
set_option linter.all false
namespace Go.Proofs.Ytjmkgpkgagohoaa
open Go Go.Dk
set_option linter.unusedSimpArgs false
set_option linter.unusedVariables false
set_option maxRecDepth 10000
set_option maxHeartbeats 4000000

theorem same (a b : List UInt8) :
    (Con.mk [.imm false 1 (rowsB a), .imm false 1 (rowsB b)] [] [] (.v (.bool (decide (a = b)))) []).ok Try.prog 21 := by
  refine ⟨?_, by simp [Con.wf, ids, inA, inM, inB, inL_nil, inL_cons, inL_append, inL_cellsB, inL_dat]⟩
  refine con_of_ev true [0, 1, 4] 10 Try.func21 (code := _) rfl rfl Try.ntmps21 (by simp) [.tmp 4] (by rw [Try.results21]) ?_
  simp (maxSteps := 2000000) (disch := omega) only [go_sem, Int.reduceEq, Int.reduceNe, Nat.reduceBEq, Nat.reduceLT, Nat.reduceLeDiff, Nat.reduceAdd, Nat.reduceSub, Nat.reduceMul, Nat.reduceEqDiff, Int.reduceLT, Int.reduceLE, Int.reduceNeg, Int.reduceToNat, Int.reduceAdd, Int.reduceSub, ↓reduceIte, reduceCtorEq]
  exact fin_ret (by rfl) (by simp [subMem])

theorem Reader_End (rs : List UInt8) (e : Int) :
    (Con.mk [.ptr 1000 0] [(1000, .cells [.imm false 1 (rowsB (rs)), .v (.int .i64 (e))])] [1000] (.v (.int .i64 (if e = 0 ∧ rs ≠ [] then 13 else e))) [(1000, .cells [.imm false 1 (rowsB (rs)), .v (.int .i64 (e))])]).ok Try.prog 27 := by
  refine ⟨?_, by simp [Con.wf, ids, inA, inM, inB, inL_nil, inL_cons, inL_append, inL_cellsB, inL_dat]⟩
  by_cases h : e = 0
  · subst h
    cases rs with
    | nil =>
      rw [if_neg (by simp)]
      refine con_of_ev true [0, 2, 15] 20 Try.func27 (code := _) rfl rfl Try.ntmps27 (by simp) [.tmp 2] (by rw [Try.results27]) ?_
      simp (maxSteps := 2000000) (disch := omega) only [go_sem, Int.reduceEq, Int.reduceNe, Nat.reduceBEq, Nat.reduceLT, Nat.reduceLeDiff, Nat.reduceAdd, Nat.reduceSub, Nat.reduceMul, Nat.reduceEqDiff, Int.reduceLT, Int.reduceLE, Int.reduceNeg, Int.reduceToNat, Int.reduceAdd, Int.reduceSub, ↓reduceIte, reduceCtorEq]
      exact fin_ret (by rfl) (by simp [subMem, Dk.find, rowsB_nil])
    | cons b rs =>
      rw [if_pos (by simp)]
      refine con_of_ev true [0, 2, 15] 20 Try.func27 (code := _) rfl rfl Try.ntmps27 (by simp) [.tmp 2] (by rw [Try.results27]) ?_
      simp (maxSteps := 2000000) (disch := omega) only [go_sem, Int.reduceEq, Int.reduceNe, Nat.reduceBEq, Nat.reduceLT, Nat.reduceLeDiff, Nat.reduceAdd, Nat.reduceSub, Nat.reduceMul, Nat.reduceEqDiff, Int.reduceLT, Int.reduceLE, Int.reduceNeg, Int.reduceToNat, Int.reduceAdd, Int.reduceSub, ↓reduceIte, reduceCtorEq, decide_eq_true (show (0 : Int) < ((rs.length + 1 : Nat) : Int) from by omega)]
      exact fin_ret (by rfl) (by simp [subMem, Dk.find])
  · rw [if_neg (by simp [h])]
    refine con_of_ev true [0, 2, 15] 20 Try.func27 (code := _) rfl rfl Try.ntmps27 (by simp) [.tmp 2] (by rw [Try.results27]) ?_
    simp (maxSteps := 2000000) (disch := omega) only [go_sem, Int.reduceEq, Int.reduceNe, Nat.reduceBEq, Nat.reduceLT, Nat.reduceLeDiff, Nat.reduceAdd, Nat.reduceSub, Nat.reduceMul, Nat.reduceEqDiff, Int.reduceLT, Int.reduceLE, Int.reduceNeg, Int.reduceToNat, Int.reduceAdd, Int.reduceSub, ↓reduceIte, reduceCtorEq, decide_eq_false h]
    exact fin_ret (by rfl) (by simp [subMem, Dk.find])

theorem Reader_End' (rs : List UInt8) (e : Int) {e2 : Int} (h : (if e = 0 ∧ rs ≠ [] then 13 else e) = e2) :
    (Con.mk [.ptr 1000 0] [(1000, .cells [.imm false 1 (rowsB (rs)), .v (.int .i64 (e))])] [1000] (.v (.int .i64 e2)) [(1000, .cells [.imm false 1 (rowsB (rs)), .v (.int .i64 (e))])]).ok Try.prog 27 := h ▸ Reader_End rs e

theorem Reader_Byte (rs : List UInt8) (e : Int) (hl : rs.length < 1000000000000) {n1 : Nat} {rs1 : List UInt8} {e1 : Int} (h : highR 1 (rs, e) = (n1, rs1, e1)) :
    (Con.mk [.ptr 1000 0] [(1000, .cells [.imm false 1 (rowsB (rs)), .v (.int .i64 (e))])] [1000] (.v (.int .u8 n1)) [(1000, .cells [.imm false 1 (rowsB (rs1)), .v (.int .i64 (e1))])]).ok Try.prog 47 := by
  refine ⟨?_, by simp [Con.wf, ids, inA, inM, inB, inL_nil, inL_cons, inL_append, inL_cellsB, inL_dat]⟩
  have hb := highR_lt h
  refine con_of_ev true [0, 2] 6 Try.func47 (code := _) rfl rfl Try.ntmps47 (by simp) [.tmp 2] (by rw [Try.results47]) ?_
  simp (maxSteps := 2000000) (disch := omega) only [go_sem, Int.reduceEq, Int.reduceNe, Nat.reduceBEq, Nat.reduceLT, Nat.reduceLeDiff, Nat.reduceAdd, Nat.reduceSub, Nat.reduceMul, Nat.reduceEqDiff, Int.reduceLT, Int.reduceLE, Int.reduceNeg, Int.reduceToNat, Int.reduceAdd, Int.reduceSub, ↓reduceIte, reduceCtorEq]
  refine awCall_con [] [] (Reader_high' rs e 1 hl (by omega) h) ?_ ?_ ?_ ?_ ?_; (focus kernel_rfl); (focus exact (.inl rfl)); (focus (simp [go_sem]; done)); (focus (simp [go_sem]; done)); rintro _ rfl; simp (maxSteps := 2000000) (disch := omega) only [go_sem, Int.reduceEq, Int.reduceNe, Nat.reduceBEq, Nat.reduceLT, Nat.reduceLeDiff, Nat.reduceAdd, Nat.reduceSub, Nat.reduceMul, Nat.reduceEqDiff, Int.reduceLT, Int.reduceLE, Int.reduceNeg, Int.reduceToNat, Int.reduceAdd, Int.reduceSub, ↓reduceIte, reduceCtorEq]
  exact fin_ret (by rfl) (by simp [subMem, Dk.find])

theorem Reader_Word (rs : List UInt8) (e : Int) (hl : rs.length < 1000000000000) {n1 : Nat} {rs1 : List UInt8} {e1 : Int} (h : highR 4 (rs, e) = (n1, rs1, e1)) :
    (Con.mk [.ptr 1000 0] [(1000, .cells [.imm false 1 (rowsB (rs)), .v (.int .i64 (e))])] [1000] (.v (.int .u32 n1)) [(1000, .cells [.imm false 1 (rowsB (rs1)), .v (.int .i64 (e1))])]).ok Try.prog 56 := by
  refine ⟨?_, by simp [Con.wf, ids, inA, inM, inB, inL_nil, inL_cons, inL_append, inL_cellsB, inL_dat]⟩
  have hb := highR_lt h
  refine con_of_ev true [0, 2] 6 Try.func56 (code := _) rfl rfl Try.ntmps56 (by simp) [.tmp 2] (by rw [Try.results56]) ?_
  simp (maxSteps := 2000000) (disch := omega) only [go_sem, Int.reduceEq, Int.reduceNe, Nat.reduceBEq, Nat.reduceLT, Nat.reduceLeDiff, Nat.reduceAdd, Nat.reduceSub, Nat.reduceMul, Nat.reduceEqDiff, Int.reduceLT, Int.reduceLE, Int.reduceNeg, Int.reduceToNat, Int.reduceAdd, Int.reduceSub, ↓reduceIte, reduceCtorEq]
  refine awCall_con [] [] (Reader_high' rs e 4 hl (by omega) h) ?_ ?_ ?_ ?_ ?_; (focus kernel_rfl); (focus exact (.inl rfl)); (focus (simp [go_sem]; done)); (focus (simp [go_sem]; done)); rintro _ rfl; simp (maxSteps := 2000000) (disch := omega) only [go_sem, Int.reduceEq, Int.reduceNe, Nat.reduceBEq, Nat.reduceLT, Nat.reduceLeDiff, Nat.reduceAdd, Nat.reduceSub, Nat.reduceMul, Nat.reduceEqDiff, Int.reduceLT, Int.reduceLE, Int.reduceNeg, Int.reduceToNat, Int.reduceAdd, Int.reduceSub, ↓reduceIte, reduceCtorEq]
  exact fin_ret (by rfl) (by simp [subMem, Dk.find])

theorem Reader_Long (rs : List UInt8) (e : Int) (hl : rs.length < 1000000000000) {n1 : Nat} {rs1 : List UInt8} {e1 : Int} (h : highR 8 (rs, e) = (n1, rs1, e1)) :
    (Con.mk [.ptr 1000 0] [(1000, .cells [.imm false 1 (rowsB (rs)), .v (.int .i64 (e))])] [1000] (.v (.int .u64 n1)) [(1000, .cells [.imm false 1 (rowsB (rs1)), .v (.int .i64 (e1))])]).ok Try.prog 57 := by
  refine ⟨?_, by simp [Con.wf, ids, inA, inM, inB, inL_nil, inL_cons, inL_append, inL_cellsB, inL_dat]⟩
  refine con_of_ev true [0, 2] 5 Try.func57 (code := _) rfl rfl Try.ntmps57 (by simp) [.tmp 2] (by rw [Try.results57]) ?_
  simp (maxSteps := 2000000) (disch := omega) only [go_sem, Int.reduceEq, Int.reduceNe, Nat.reduceBEq, Nat.reduceLT, Nat.reduceLeDiff, Nat.reduceAdd, Nat.reduceSub, Nat.reduceMul, Nat.reduceEqDiff, Int.reduceLT, Int.reduceLE, Int.reduceNeg, Int.reduceToNat, Int.reduceAdd, Int.reduceSub, ↓reduceIte, reduceCtorEq]
  refine awCall_con [] [] (Reader_high' rs e 8 hl (by omega) h) ?_ ?_ ?_ ?_ ?_; (focus kernel_rfl); (focus exact (.inl rfl)); (focus (simp [go_sem]; done)); (focus (simp [go_sem]; done)); rintro _ rfl; simp (maxSteps := 2000000) (disch := omega) only [go_sem, Int.reduceEq, Int.reduceNe, Nat.reduceBEq, Nat.reduceLT, Nat.reduceLeDiff, Nat.reduceAdd, Nat.reduceSub, Nat.reduceMul, Nat.reduceEqDiff, Int.reduceLT, Int.reduceLE, Int.reduceNeg, Int.reduceToNat, Int.reduceAdd, Int.reduceSub, ↓reduceIte, reduceCtorEq]
  exact fin_ret (by rfl) (by simp [subMem, Dk.find])

theorem Reader_Fail (rs : List UInt8) (e c : Int) :
    (Con.mk [.ptr 1000 0, .v (.int .i64 c)] [(1000, .cells [.imm false 1 (rowsB (rs)), .v (.int .i64 (e))])] [1000] (.tup []) [(1000, .cells [.imm false 1 (rowsB (rs)), .v (.int .i64 (if e = 0 then c else e))])]).ok Try.prog 62 := by
  refine ⟨?_, by simp [Con.wf, ids, inA, inM, inB, inL_nil, inL_cons, inL_append, inL_cellsB, inL_dat]⟩
  by_cases h : e = 0
  · subst h
    refine con_of_ev true [0, 1, 8] 13 Try.func62 (code := _) rfl rfl Try.ntmps62 (by simp) [] (by rw [Try.results62]) ?_
    simp (maxSteps := 2000000) (disch := omega) only [go_sem, Int.reduceEq, Int.reduceNe, Nat.reduceBEq, Nat.reduceLT, Nat.reduceLeDiff, Nat.reduceAdd, Nat.reduceSub, Nat.reduceMul, Nat.reduceEqDiff, Int.reduceLT, Int.reduceLE, Int.reduceNeg, Int.reduceToNat, Int.reduceAdd, Int.reduceSub, ↓reduceIte, reduceCtorEq]
    exact fin_normal (by rfl) (by simp [subMem, Dk.find])
  · refine con_of_ev true [0, 1, 8] 13 Try.func62 (code := _) rfl rfl Try.ntmps62 (by simp) [] (by rw [Try.results62]) ?_
    simp (maxSteps := 2000000) (disch := omega) only [go_sem, Int.reduceEq, Int.reduceNe, Nat.reduceBEq, Nat.reduceLT, Nat.reduceLeDiff, Nat.reduceAdd, Nat.reduceSub, Nat.reduceMul, Nat.reduceEqDiff, Int.reduceLT, Int.reduceLE, Int.reduceNeg, Int.reduceToNat, Int.reduceAdd, Int.reduceSub, ↓reduceIte, reduceCtorEq, decide_eq_false h]
    exact fin_normal (by rfl) (by simp [subMem, Dk.find, h])
end Go.Proofs.Ytjmkgpkgagohoaa
