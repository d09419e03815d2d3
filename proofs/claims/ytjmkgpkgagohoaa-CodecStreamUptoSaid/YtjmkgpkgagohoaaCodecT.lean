/-
  CodecT: contracts of functions of the program, and what follows from them.
-/
import Derived.Test.YtjmkgpkgagohoaaTyCodec
import Derived.Test.YtjmkgpkgagohoaaCodecR
import Derived.Test.YtjmkgpkgagohoaaPlFrame
import Derived.Test.YtjmkgpkgagohoaaDk3
set_option linter.all false
namespace Go.Proofs.Ytjmkgpkgagohoaa
open Go Go.Dk
set_option linter.unusedSimpArgs false
set_option linter.unusedVariables false
set_option maxRecDepth 10000
set_option maxHeartbeats 4000000
set_option pp.deepTerms true
set_option pp.maxSteps 1000000

theorem Frame (b : List UInt8) (hl : b.length < 1000000000) {f : List UInt8} {e : Int} (h : frameF b = (f, e)) :
    (Con.mk [.imm false 1 (rowsB b)] [] [] (.tup [.slc 102 1 0 f.length, .v (.int .i64 e)]) [(102, .cells (cellsB f))]).ok Try.prog 40 := by
  refine ⟨?_, by simp [Con.wf, ids, inA, inM, inB, inL_nil, inL_cons, inL_append, inL_cellsB, inL_dat]⟩
  unfold frameF at h
  by_cases c : 16777216 < b.length
  · rw [if_pos c] at h
    simp only [Prod.mk.injEq] at h
    obtain ⟨rfl, rfl⟩ := h
    refine con_of_ev true [0, 2, 3, 4, 7] 30 Try.func40 (code := _) rfl rfl Try.ntmps40 (by simp) [.tmp 2, .tmp 3] (by rw [Try.results40]) ?_
    simp (maxSteps := 2000000) (disch := omega) only [go_sem, List.length_map, Int.reduceEq, Int.reduceNe, Nat.reduceBEq, Nat.reduceLT, Nat.reduceLeDiff, Nat.reduceAdd, Nat.reduceSub, Nat.reduceMul, Nat.reduceEqDiff, Int.reduceLT, Int.reduceLE, Int.reduceNeg, Int.reduceToNat, Int.reduceAdd, Int.reduceSub, ↓reduceIte, reduceCtorEq, decide_eq_true (show (16777216 : Int) < b.length from by omega)]
    exact Fin_weak (weak_nil 2 102 1 rfl rfl rfl rfl) (fin_ret (by rfl) (by simp [subMem, Dk.find, cellsB_nil]))
  · rw [if_neg c] at h
    simp only [Prod.mk.injEq] at h
    obtain ⟨rfl, rfl⟩ := h
    refine con_of_ev true [0, 2, 3, 4, 7] 30 Try.func40 (code := _) rfl rfl Try.ntmps40 (by simp) [.tmp 2, .tmp 3] (by rw [Try.results40]) ?_
    simp (maxSteps := 2000000) (disch := omega) only [go_sem, List.length_map, Int.reduceEq, Int.reduceNe, Nat.reduceBEq, Nat.reduceLT, Nat.reduceLeDiff, Nat.reduceAdd, Nat.reduceSub, Nat.reduceMul, Nat.reduceEqDiff, Int.reduceLT, Int.reduceLE, Int.reduceNeg, Int.reduceToNat, Int.reduceAdd, Int.reduceSub, ↓reduceIte, reduceCtorEq, decide_eq_false (show ¬ (16777216 : Int) < b.length from by omega)]
    refine awCall_con [(2, 100), (3, 101)] [] (New) ?_ ?_ ?_ ?_ ?_; (focus kernel_rfl); (focus exact (.inl rfl)); (focus (simp [go_sem]; done)); (focus (simp [go_sem]; done)); rintro _ rfl; simp (maxSteps := 2000000) (disch := omega) only [go_sem, List.length_map, Int.reduceEq, Int.reduceNe, Nat.reduceBEq, Nat.reduceLT, Nat.reduceLeDiff, Nat.reduceAdd, Nat.reduceSub, Nat.reduceMul, Nat.reduceEqDiff, Int.reduceLT, Int.reduceLE, Int.reduceNeg, Int.reduceToNat, Int.reduceAdd, Int.reduceSub, ↓reduceIte, reduceCtorEq]
    have hs1 := (sumC (highB b.length 4)).isLt
    have hs2 := (sumC b).isLt
    refine awCall_con [(1000, 100), (1001, 101)] [] (Writer_Word [] b.length (by omega) (by simp)) ?_ ?_ ?_ ?_ ?_; (focus kernel_rfl); (focus exact (.inl rfl)); (focus (simp [go_sem]; done)); (focus (simp [go_sem]; done)); rintro _ rfl; simp (maxSteps := 2000000) (disch := omega) only [go_sem, List.length_map, Int.reduceEq, Int.reduceNe, Nat.reduceBEq, Nat.reduceLT, Nat.reduceLeDiff, Nat.reduceAdd, Nat.reduceSub, Nat.reduceMul, Nat.reduceEqDiff, Int.reduceLT, Int.reduceLE, Int.reduceNeg, Int.reduceToNat, Int.reduceAdd, Int.reduceSub, ↓reduceIte, reduceCtorEq]
    refine awCall_con [] [101] (Sum (highB b.length 4) (by rw [highB_length]; omega)) ?_ ?_ ?_ ?_ ?_; (focus kernel_rfl); (focus exact (.inr ⟨by simp [AV.strong, strongL], by simp [strongM, strongB, strongL, strongL_cellsB, AV.strong]⟩)); (focus (simp [go_sem, datsL_cellsB, chunk_cellsB]; done)); (focus (simp [go_sem, datsL_cellsB, chunk_cellsB]; done)); rintro _ rfl; simp (maxSteps := 2000000) (disch := omega) only [go_sem, List.length_map, Int.reduceEq, Int.reduceNe, Nat.reduceBEq, Nat.reduceLT, Nat.reduceLeDiff, Nat.reduceAdd, Nat.reduceSub, Nat.reduceMul, Nat.reduceEqDiff, Int.reduceLT, Int.reduceLE, Int.reduceNeg, Int.reduceToNat, Int.reduceAdd, Int.reduceSub, ↓reduceIte, reduceCtorEq]
    refine awCall_con [(1000, 100), (1001, 101)] [] (Writer_Word (highB b.length 4) (sumC (highB b.length 4)).toNat (by omega) (by rw [highB_length]; omega)) ?_ ?_ ?_ ?_ ?_; (focus kernel_rfl); (focus exact (.inl rfl)); (focus (simp [go_sem]; done)); (focus (simp [go_sem]; done)); rintro _ rfl; simp (maxSteps := 2000000) (disch := omega) only [go_sem, List.length_map, Int.reduceEq, Int.reduceNe, Nat.reduceBEq, Nat.reduceLT, Nat.reduceLeDiff, Nat.reduceAdd, Nat.reduceSub, Nat.reduceMul, Nat.reduceEqDiff, Int.reduceLT, Int.reduceLE, Int.reduceNeg, Int.reduceToNat, Int.reduceAdd, Int.reduceSub, ↓reduceIte, reduceCtorEq]
    have hfl := frameB_length b
    have hf : frameB b = highB b.length 4 ++ (highB (sumC (highB b.length 4)).toNat 4 ++ (b ++ highB (sumC b).toNat 4)) := by simp [frameB]
    refine awCall_con [(1000, 100), (1001, 101)] [] (Writer_Raw (highB b.length 4 ++ highB (sumC (highB b.length 4)).toNat 4) b (by simp [highB_length]; omega)) ?_ ?_ ?_ ?_ ?_; (focus kernel_rfl); (focus exact (.inl rfl)); (focus (simp [go_sem]; done)); (focus (simp [go_sem]; done)); rintro _ rfl; simp (maxSteps := 2000000) (disch := omega) only [go_sem, List.length_map, Int.reduceEq, Int.reduceNe, Nat.reduceBEq, Nat.reduceLT, Nat.reduceLeDiff, Nat.reduceAdd, Nat.reduceSub, Nat.reduceMul, Nat.reduceEqDiff, Int.reduceLT, Int.reduceLE, Int.reduceNeg, Int.reduceToNat, Int.reduceAdd, Int.reduceSub, ↓reduceIte, reduceCtorEq]
    refine awCall_con [] [] (Sum b (by omega)) ?_ ?_ ?_ ?_ ?_; (focus kernel_rfl); (focus exact (.inl rfl)); (focus (simp [go_sem]; done)); (focus (simp [go_sem]; done)); rintro _ rfl; simp (maxSteps := 2000000) (disch := omega) only [go_sem, List.length_map, Int.reduceEq, Int.reduceNe, Nat.reduceBEq, Nat.reduceLT, Nat.reduceLeDiff, Nat.reduceAdd, Nat.reduceSub, Nat.reduceMul, Nat.reduceEqDiff, Int.reduceLT, Int.reduceLE, Int.reduceNeg, Int.reduceToNat, Int.reduceAdd, Int.reduceSub, ↓reduceIte, reduceCtorEq]
    refine awCall_con [(1000, 100), (1001, 101)] [] (Writer_Word (highB b.length 4 ++ highB (sumC (highB b.length 4)).toNat 4 ++ b) (sumC b).toNat (by omega) (by simp [highB_length]; omega)) ?_ ?_ ?_ ?_ ?_; (focus kernel_rfl); (focus exact (.inl rfl)); (focus (simp [go_sem]; done)); (focus (simp [go_sem]; done)); rintro _ rfl; simp (maxSteps := 2000000) (disch := omega) only [go_sem, List.length_map, Int.reduceEq, Int.reduceNe, Nat.reduceBEq, Nat.reduceLT, Nat.reduceLeDiff, Nat.reduceAdd, Nat.reduceSub, Nat.reduceMul, Nat.reduceEqDiff, Int.reduceLT, Int.reduceLE, Int.reduceNeg, Int.reduceToNat, Int.reduceAdd, Int.reduceSub, ↓reduceIte, reduceCtorEq]
    rw [← hf]
    refine awCall_con [(1000, 100), (1001, 101), (7, 102)] [] (Writer_Bytes (frameB b) (by omega)) ?_ ?_ ?_ ?_ ?_; (focus kernel_rfl); (focus exact (.inl rfl)); (focus (simp [go_sem]; done)); (focus (simp [go_sem]; done)); rintro _ rfl; simp (maxSteps := 2000000) (disch := omega) only [go_sem, List.length_map, Int.reduceEq, Int.reduceNe, Nat.reduceBEq, Nat.reduceLT, Nat.reduceLeDiff, Nat.reduceAdd, Nat.reduceSub, Nat.reduceMul, Nat.reduceEqDiff, Int.reduceLT, Int.reduceLE, Int.reduceNeg, Int.reduceToNat, Int.reduceAdd, Int.reduceSub, ↓reduceIte, reduceCtorEq]
    exact fin_ret (by rfl) (by simp [subMem, Dk.find])

theorem rNumberL (n : Nat) (m : Nat) (hm : m ≤ 8) (hn : n < 18446744073709551616) :
    (Con.mk [.v (.int .u64 n), .v (.int .i64 m)] [] [] (.slc 28 1 0 (highB n m).length) [(28, .cells (cellsB (highB n m)))]).ok Try.prog 54 := by
  rw [highB_length]; exact rNumber n m hm hn

theorem rFrame (b : List UInt8) (hl : b.length < 1000000000) {f : List UInt8} {e : Int} (h : frameF b = (f, e)) :
    (Con.mk [.imm false 1 (rowsB b)] [] [] (.tup [.slc 102 1 0 f.length, .v (.int .i64 e)]) [(102, .cells (cellsB f))]).ok Try.prog 41 := by
  refine ⟨?_, by simp [Con.wf, ids, inA, inM, inB, inL_nil, inL_cons, inL_append, inL_cellsB, inL_dat]⟩
  unfold frameF at h
  by_cases c : 16777216 < b.length
  · rw [if_pos c] at h
    simp only [Prod.mk.injEq] at h
    obtain ⟨rfl, rfl⟩ := h
    refine con_of_ev true [0, 2, 3, 4, 7] 28 Try.func41 (code := _) rfl rfl Try.ntmps41 (by simp) [.tmp 2, .tmp 3] (by rw [Try.results41]) ?_
    simp (maxSteps := 2000000) (disch := omega) only [go_sem, List.length_map, Int.reduceEq, Int.reduceNe, Nat.reduceBEq, Nat.reduceLT, Nat.reduceLeDiff, Nat.reduceAdd, Nat.reduceSub, Nat.reduceMul, Nat.reduceEqDiff, Int.reduceLT, Int.reduceLE, Int.reduceNeg, Int.reduceToNat, Int.reduceAdd, Int.reduceSub, ↓reduceIte, reduceCtorEq, decide_eq_true (show (16777216 : Int) < b.length from by omega)]
    exact Fin_weak (weak_nil 2 102 1 rfl rfl rfl rfl) (fin_ret (by rfl) (by simp [subMem, Dk.find, cellsB_nil]))
  · rw [if_neg c] at h
    simp only [Prod.mk.injEq] at h
    obtain ⟨rfl, rfl⟩ := h
    have hs1 := (sumC (highB b.length 4)).isLt
    have hs2 := (sumC b).isLt
    have hfl := frameB_length b
    have hf : frameB b = highB b.length 4 ++ (highB (sumC (highB b.length 4)).toNat 4 ++ (b ++ highB (sumC b).toNat 4)) := by simp [frameB]
    have e4 : ∀ n, (highB n 4).length = 4 := fun n => highB_length n 4
    have hch : chunk 1 4 (List.take 4 ((highB b.length 4).map fun b => Dat.v (.int .u8 (b.toNat : Int)))) = rowsB (highB b.length 4) := by
      have := chunk_cellsB (highB b.length 4)
      rw [highB_length] at this
      rwa [List.take_of_length_le (by rw [List.length_map, highB_length]; exact Nat.le_refl _)]
    refine con_of_ev true [0, 2, 3, 4, 7] 28 Try.func41 (code := _) rfl rfl Try.ntmps41 (by simp) [.tmp 2, .tmp 3] (by rw [Try.results41]) ?_
    simp (maxSteps := 2000000) (disch := omega) only [go_sem, List.length_map, Int.reduceEq, Int.reduceNe, Nat.reduceBEq, Nat.reduceLT, Nat.reduceLeDiff, Nat.reduceAdd, Nat.reduceSub, Nat.reduceMul, Nat.reduceEqDiff, Int.reduceLT, Int.reduceLE, Int.reduceNeg, Int.reduceToNat, Int.reduceAdd, Int.reduceSub, ↓reduceIte, reduceCtorEq, decide_eq_false (show ¬ (16777216 : Int) < b.length from by omega)]
    refine awCall_con [(28, 102)] [] (rNumberL b.length 4 (by omega) (by omega)) ?_ ?_ ?_ ?_ ?_; (focus kernel_rfl); (focus exact (.inl rfl)); (focus (simp [go_sem]; done)); (focus (simp [go_sem]; done)); rintro _ rfl; simp (maxSteps := 2000000) (disch := omega) only [go_sem, List.length_map, Int.reduceEq, Int.reduceNe, Nat.reduceBEq, Nat.reduceLT, Nat.reduceLeDiff, Nat.reduceAdd, Nat.reduceSub, Nat.reduceMul, Nat.reduceEqDiff, Int.reduceLT, Int.reduceLE, Int.reduceNeg, Int.reduceToNat, Int.reduceAdd, Int.reduceSub, ↓reduceIte, reduceCtorEq]
    generalize hh : highB b.length 4 = h1 at *
    have hl1 : h1.length = 4 := by rw [← hh, highB_length]
    refine awCall_con [] [102] (rSum h1 (by omega)) ?_ ?_ ?_ ?_ ?_; (focus kernel_rfl); (focus exact (.inr ⟨by simp [AV.strong, strongL], by simp [strongM, strongB, strongL, strongL_cellsB, AV.strong]⟩)); (focus (simp [go_sem, datsL_cellsB, chunk_cellsB]; done)); (focus (simp [go_sem, datsL_cellsB, chunk_cellsB]; done)); rintro _ rfl; simp (maxSteps := 2000000) (disch := omega) only [go_sem, List.length_map, Int.reduceEq, Int.reduceNe, Nat.reduceBEq, Nat.reduceLT, Nat.reduceLeDiff, Nat.reduceAdd, Nat.reduceSub, Nat.reduceMul, Nat.reduceEqDiff, Int.reduceLT, Int.reduceLE, Int.reduceNeg, Int.reduceToNat, Int.reduceAdd, Int.reduceSub, ↓reduceIte, reduceCtorEq]
    refine awCall_con [(28, 103)] [] (rNumberL (sumC h1).toNat 4 (by omega) (by omega)) ?_ ?_ ?_ ?_ ?_; (focus kernel_rfl); (focus exact (.inl rfl)); (focus (simp [go_sem]; done)); (focus (simp [go_sem]; done)); rintro _ rfl; simp (maxSteps := 2000000) (disch := omega) only [go_sem, List.length_map, Int.reduceEq, Int.reduceNe, Nat.reduceBEq, Nat.reduceLT, Nat.reduceLeDiff, Nat.reduceAdd, Nat.reduceSub, Nat.reduceMul, Nat.reduceEqDiff, Int.reduceLT, Int.reduceLE, Int.reduceNeg, Int.reduceToNat, Int.reduceAdd, Int.reduceSub, ↓reduceIte, reduceCtorEq]
    generalize hh2 : highB (sumC h1).toNat 4 = h2 at *
    have hl2 : h2.length = 4 := by rw [← hh2, highB_length]
    have hl3 : (h1 ++ h2).length = 8 := by rw [List.length_append]; omega
    have hl4 : (h1 ++ (h2 ++ b)).length = 8 + b.length := by simp only [List.length_append]; omega
    simp (maxSteps := 2000000) (disch := omega) only [go_sem, List.length_map, Int.reduceEq, Int.reduceNe, Nat.reduceBEq, Nat.reduceLT, Nat.reduceLeDiff, Nat.reduceAdd, Nat.reduceSub, Nat.reduceMul, Nat.reduceEqDiff, Int.reduceLT, Int.reduceLE, Int.reduceNeg, Int.reduceToNat, Int.reduceAdd, Int.reduceSub, ↓reduceIte, reduceCtorEq, List.take_length, ← List.length_append]
    refine awCall_con [] [] (rSum b (by omega)) ?_ ?_ ?_ ?_ ?_; (focus kernel_rfl); (focus exact (.inl rfl)); (focus (simp [go_sem]; done)); (focus (simp [go_sem]; done)); rintro _ rfl; simp (maxSteps := 2000000) (disch := omega) only [go_sem, List.length_map, Int.reduceEq, Int.reduceNe, Nat.reduceBEq, Nat.reduceLT, Nat.reduceLeDiff, Nat.reduceAdd, Nat.reduceSub, Nat.reduceMul, Nat.reduceEqDiff, Int.reduceLT, Int.reduceLE, Int.reduceNeg, Int.reduceToNat, Int.reduceAdd, Int.reduceSub, ↓reduceIte, reduceCtorEq]
    refine awCall_con [(28, 104)] [] (rNumberL (sumC b).toNat 4 (by omega) (by omega)) ?_ ?_ ?_ ?_ ?_; (focus kernel_rfl); (focus exact (.inl rfl)); (focus (simp [go_sem]; done)); (focus (simp [go_sem]; done)); rintro _ rfl; simp (maxSteps := 2000000) (disch := omega) only [go_sem, List.length_map, Int.reduceEq, Int.reduceNe, Nat.reduceBEq, Nat.reduceLT, Nat.reduceLeDiff, Nat.reduceAdd, Nat.reduceSub, Nat.reduceMul, Nat.reduceEqDiff, Int.reduceLT, Int.reduceLE, Int.reduceNeg, Int.reduceToNat, Int.reduceAdd, Int.reduceSub, ↓reduceIte, reduceCtorEq]
    generalize hh3 : highB (sumC b).toNat 4 = h3 at *
    have hl5 : h3.length = 4 := by rw [← hh3, highB_length]
    have hl6 : (h1 ++ (h2 ++ (b ++ h3))).length = 12 + b.length := by simp only [List.length_append]; omega
    simp (maxSteps := 2000000) (disch := omega) only [go_sem, List.length_map, Int.reduceEq, Int.reduceNe, Nat.reduceBEq, Nat.reduceLT, Nat.reduceLeDiff, Nat.reduceAdd, Nat.reduceSub, Nat.reduceMul, Nat.reduceEqDiff, Int.reduceLT, Int.reduceLE, Int.reduceNeg, Int.reduceToNat, Int.reduceAdd, Int.reduceSub, ↓reduceIte, reduceCtorEq, List.take_length, ← List.length_append]
    rw [← hf]
    exact fin_ret (by rfl) (by simp [subMem, Dk.find])
end Go.Proofs.Ytjmkgpkgagohoaa
