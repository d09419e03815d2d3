/-
  CodecC: contracts of functions of the program, and what follows from them.
-/
import Derived.Test.YtjmkgpkgagohoaaTyCodec
import Derived.Test.YtjmkgpkgagohoaaCodecB
set_option linter.all false
namespace Go.Proofs.Ytjmkgpkgagohoaa
open Go Go.Dk
set_option linter.unusedSimpArgs false
set_option linter.unusedVariables false
set_option maxRecDepth 10000

theorem Clone (cs : List UInt8) (hl : cs.length < 1000000000000) :
    (Con.mk [.imm false 1 (rowsB cs)] [] [] (.slc 5 1 0 cs.length) [(5, .cells (cellsB cs))]).ok Try.prog 44 := by
  refine ⟨?_, by simp [Con.wf, ids, inA, inM, inB, inL_nil, inL_cons, inL_append, inL_cellsB, inL_dat]⟩
  cases cs with
  | cons c cs =>
    have hl' : cs.length + 1 < 1000000000000 := hl
    refine con_of_ev true [0, 2, 4] 8 Try.func44 (code := _) rfl rfl Try.ntmps44 (by simp) [.tmp 2] (by rw [Try.results44]) ?_
    simp (maxSteps := 2000000) (disch := omega) only [go_sem, Int.reduceEq, Int.reduceNe, Nat.reduceBEq, Nat.reduceLT, Nat.reduceLeDiff, Nat.reduceAdd, Nat.reduceSub, Nat.reduceMul, Nat.reduceEqDiff, Int.reduceLT, Int.reduceLE, Int.reduceNeg, Int.reduceToNat, Int.reduceAdd, Int.reduceSub, ↓reduceIte, reduceCtorEq, rowsB_cons]
    exact fin_ret (by rfl) (by simp [subMem, Dk.find, cellsB_cons])
  | nil =>
    refine holds_split (fun a => ∃ o c, a = [.v (.slice o 0 c)]) ⟨_, none, 0, rfl⟩ ?_ ?_
    · intro E us h
      simp only [DenL, rowsB_nil, Den, DenD, List.length_nil] at h
      obtain ⟨u, us', rfl, ⟨a, c, rfl, _⟩, rfl⟩ := h
      exact ⟨_, ⟨a, c, rfl⟩, by simp [DenL, Den]⟩
    · rintro _ ⟨o, c, rfl⟩
      refine con_of_ev true [0, 2, 4] 8 Try.func44 (code := _) rfl rfl Try.ntmps44 (by simp) [.tmp 2] (by rw [Try.results44]) ?_
      cases o with
      | none =>
        simp (maxSteps := 2000000) (disch := omega) only [go_sem, Int.reduceEq, Int.reduceNe, Nat.reduceBEq, Nat.reduceLT, Nat.reduceLeDiff, Nat.reduceAdd, Nat.reduceSub, Nat.reduceMul, Nat.reduceEqDiff, Int.reduceLT, Int.reduceLE, Int.reduceNeg, Int.reduceToNat, Int.reduceAdd, Int.reduceSub, ↓reduceIte, reduceCtorEq, srcCells_emp, Option.isNone_none]
        exact Fin_weak (weak_nil 2 5 1 rfl rfl rfl rfl) (fin_ret (by rfl) (by simp [subMem, Dk.find, cellsB_nil]))
      | some a =>
        simp (maxSteps := 2000000) (disch := omega) only [go_sem, Int.reduceEq, Int.reduceNe, Nat.reduceBEq, Nat.reduceLT, Nat.reduceLeDiff, Nat.reduceAdd, Nat.reduceSub, Nat.reduceMul, Nat.reduceEqDiff, Int.reduceLT, Int.reduceLE, Int.reduceNeg, Int.reduceToNat, Int.reduceAdd, Int.reduceSub, ↓reduceIte, reduceCtorEq, srcCells_emp, Option.isNone_some]
        exact fin_ret (by rfl) (by simp [subMem, Dk.find, cellsB_nil])

theorem Writer_Bytes (bs : List UInt8) (hl : bs.length < 1000000000000) :
    (Con.mk [.ptr 1000 0] [(1000, .cells [.slc 1001 1 0 (bs).length]), (1001, .cells (cellsB (bs)))] [1000] (.slc 7 1 0 bs.length) ([(1000, .cells [.slc 1001 1 0 (bs).length]), (1001, .cells (cellsB (bs)))] ++ [(7, .cells (cellsB bs))])).ok Try.prog 22 := by
  refine ⟨?_, by simp [Con.wf, ids, inA, inM, inB, inL_nil, inL_cons, inL_append, inL_cellsB, inL_dat]⟩
  refine con_of_ev true [0, 2] 8 Try.func22 (code := _) rfl rfl Try.ntmps22 (by simp) [.tmp 2] (by rw [Try.results22]) ?_
  simp (maxSteps := 2000000) (disch := omega) only [go_sem, Int.reduceEq, Int.reduceNe, Nat.reduceBEq, Nat.reduceLT, Nat.reduceLeDiff, Nat.reduceAdd, Nat.reduceSub, Nat.reduceMul, Nat.reduceEqDiff, Int.reduceLT, Int.reduceLE, Int.reduceNeg, Int.reduceToNat, Int.reduceAdd, Int.reduceSub, ↓reduceIte, reduceCtorEq]
  refine awCall_con [(5, 7)] [1001] (Clone bs hl) (by kernel_rfl) (.inr ⟨by simp [AV.strong, strongL], by simp [strongM, strongB, strongL, strongL_cellsB, AV.strong]⟩) (by simp [go_sem]) (by simp [go_sem]) ?_; rintro _ rfl; simp (maxSteps := 2000000) (disch := omega) only [go_sem, Int.reduceEq, Int.reduceNe, Nat.reduceBEq, Nat.reduceLT, Nat.reduceLeDiff, Nat.reduceAdd, Nat.reduceSub, Nat.reduceMul, Nat.reduceEqDiff, Int.reduceLT, Int.reduceLE, Int.reduceNeg, Int.reduceToNat, Int.reduceAdd, Int.reduceSub, ↓reduceIte, reduceCtorEq]
  exact fin_ret (by rfl) (by simp [subMem, Dk.find])

theorem New : (Con.mk [] [] [] (.ptr 2 0) [(2, .cells [.slc 3 1 0 (([] : List UInt8)).length]), (3, .cells (cellsB (([] : List UInt8))))]).ok Try.prog 15 := by
  refine ⟨?_, by simp [Con.wf, ids, inA, inM, inB, inL_nil, inL_cons, inL_append, inL_cellsB, inL_dat]⟩
  refine con_of_ev true [0] 3 Try.func15 (code := _) rfl rfl Try.ntmps15 (by simp) [.tmp 0] (by rw [Try.results15]) ?_
  simp (maxSteps := 2000000) (disch := omega) only [go_sem, Int.reduceEq, Int.reduceNe, Nat.reduceBEq, Nat.reduceLT, Nat.reduceLeDiff, Nat.reduceAdd, Nat.reduceSub, Nat.reduceMul, Nat.reduceEqDiff, Int.reduceLT, Int.reduceLE, Int.reduceNeg, Int.reduceToNat, Int.reduceAdd, Int.reduceSub, ↓reduceIte, reduceCtorEq]
  exact Fin_weak (weak_cellnil 2 0 3 1 _ rfl rfl rfl rfl rfl) (fin_ret (by rfl) (by simp [subMem, Dk.find, cellsB_nil]))

theorem Read (cs : List UInt8) (hl : cs.length < 1000000000000) :
    (Con.mk [.imm false 1 (rowsB cs)] [] [] (.ptr 6 0) [(6, .cells [.imm true 1 (rowsB cs), .v (.int .i64 0)])]).ok Try.prog 14 := by
  refine ⟨?_, by simp [Con.wf, ids, inA, inM, inB, inL_nil, inL_cons, inL_append, inL_cellsB, inL_dat]⟩
  refine con_of_ev true [0, 2] 7 Try.func14 (code := _) rfl rfl Try.ntmps14 (by simp) [.tmp 2] (by rw [Try.results14]) ?_
  simp (maxSteps := 2000000) (disch := omega) only [go_sem, Int.reduceEq, Int.reduceNe, Nat.reduceBEq, Nat.reduceLT, Nat.reduceLeDiff, Nat.reduceAdd, Nat.reduceSub, Nat.reduceMul, Nat.reduceEqDiff, Int.reduceLT, Int.reduceLE, Int.reduceNeg, Int.reduceToNat, Int.reduceAdd, Int.reduceSub, ↓reduceIte, reduceCtorEq]
  refine awCall_con [(5, 4)] [] (Clone cs hl) (by kernel_rfl) (.inl rfl) (by simp [go_sem]) (by simp [go_sem]) ?_; rintro _ rfl; simp (maxSteps := 2000000) (disch := omega) only [go_sem, Int.reduceEq, Int.reduceNe, Nat.reduceBEq, Nat.reduceLT, Nat.reduceLeDiff, Nat.reduceAdd, Nat.reduceSub, Nat.reduceMul, Nat.reduceEqDiff, Int.reduceLT, Int.reduceLE, Int.reduceNeg, Int.reduceToNat, Int.reduceAdd, Int.reduceSub, ↓reduceIte, reduceCtorEq]
  exact Fin_weak (weak_freeze true 4 rfl (.inr (strongL_cellsB _)) rfl) (fin_ret (by rfl) (by simp [subMem, Dk.find, Dk.erase, frzM, frzBk, frzL, frz, frzIf, frzSl_bytes]))
end Go.Proofs.Ytjmkgpkgagohoaa
