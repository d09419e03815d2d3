/-
  RefD: contracts of functions of the program, and what follows from them.
-/
import Derived.Test.YtjmkgpkgagohoaaTyCodec
import Derived.Test.YtjmkgpkgagohoaaRefC
set_option linter.all false
namespace Go.Proofs.Ytjmkgpkgagohoaa
open Go Go.Dk
set_option linter.unusedSimpArgs false
set_option linter.unusedVariables false
set_option maxRecDepth 10000
set_option maxHeartbeats 4000000

theorem rGetText (b rs : List UInt8) (e : Int) (most : Int) (hl : b.length < 1000000000000) (hs : rs <:+ b) (hm : -9223372036854775808 ≤ most ∧ most ≤ 9223372036854775807)
    {l rs2 : List UInt8} {e2 : Int} (h : textR most (rs, e) = (l, rs2, e2)) :
    (Con.mk [.agg [.imm false 1 (rowsB (b)), .v (.int .i64 (((b).length - (rs).length : Nat) : Int)), .v (.int .i64 (e))], .v (.int .i64 most)] [] [] (.tup [.agg [.imm false 1 (rowsB (b)), .v (.int .i64 (((b).length - (rs2).length : Nat) : Int)), .v (.int .i64 (e2))], .imm true 1 (rowsB l)]) []).ok Try.prog 61 := by
  refine ⟨?_, by simp [Con.wf, ids, inA, inM, inB, inL_nil, inL_cons, inL_append, inL_cellsB, inL_dat]⟩
  have hle := hs.length_le
  obtain ⟨M, hM, hM2, hM3⟩ : ∃ M : Nat, IntKind.u64.wrap most = (M : Int) ∧ M < 18446744073709551616 ∧ (0 ≤ most → (M : Int) = most) := by
    have e : IntKind.u64.wrap most = most % 18446744073709551616 := by simp [IntKind.wrap, IntKind.bits, IntKind.signed]
    refine ⟨(most % 18446744073709551616).toNat, ?_, ?_, ?_⟩ <;> omega
  obtain ⟨n, rs1, e1, h1⟩ : ∃ n rs1 e1, roomR most (rs, e) = (n, rs1, e1) := ⟨_, _, _, rfl⟩
  have hs1 : rs1 <:+ b := (roomR_suf h1).trans hs
  have hle1 := hs1.length_le
  have hn : n < 18446744073709551616 ∧ (e1 = 0 → (n : Int) ≤ 9223372036854775807) := by
    have := roomR_le h1
    omega
  unfold textR at h
  rw [h1] at h
  dsimp only at h
  by_cases c0 : e1 = 0
  · subst c0
    by_cases c1 : rs1.length < n
    · rw [if_pos ⟨rfl, c1⟩] at h
      have h2 : getT n (rs, 10) = ([], rs, 10) := by simp [getT, takeR]
      rw [h2] at h
      simp only [Prod.mk.injEq] at h
      obtain ⟨rfl, rfl, rfl⟩ := h
      refine con_of_ev true [0, 1, 2, 4, 5, 6, 7, 19, 29] 38 Try.func61 (code := _) rfl rfl Try.ntmps61 (by simp) [.cell 4 44, .tmp 5] (by rw [Try.results61]) ?_
      simp (maxSteps := 2000000) (disch := omega) only [go_sem, Int.reduceEq, Int.reduceNe, Nat.reduceBEq, Nat.reduceLT, Nat.reduceLeDiff, Nat.reduceAdd, Nat.reduceSub, Nat.reduceMul, Nat.reduceEqDiff, Int.reduceLT, Int.reduceLE, Int.reduceNeg, Int.reduceToNat, Int.reduceAdd, Int.reduceSub, ↓reduceIte, reduceCtorEq, hM]
      refine awCall_con [] [] (rGetVar b rs e M most hl hs hM2 hM3 h1) ?_ ?_ ?_ ?_ ?_; (focus kernel_rfl); (focus exact (.inl rfl)); (focus (simp [go_sem]; done)); (focus (simp [go_sem]; done)); rintro _ rfl; simp (maxSteps := 2000000) (disch := omega) only [go_sem, Int.reduceEq, Int.reduceNe, Nat.reduceBEq, Nat.reduceLT, Nat.reduceLeDiff, Nat.reduceAdd, Nat.reduceSub, Nat.reduceMul, Nat.reduceEqDiff, Int.reduceLT, Int.reduceLE, Int.reduceNeg, Int.reduceToNat, Int.reduceAdd, Int.reduceSub, ↓reduceIte, reduceCtorEq]
      simp (maxSteps := 2000000) (disch := omega) only [go_sem, Int.reduceEq, Int.reduceNe, Nat.reduceBEq, Nat.reduceLT, Nat.reduceLeDiff, Nat.reduceAdd, Nat.reduceSub, Nat.reduceMul, Nat.reduceEqDiff, Int.reduceLT, Int.reduceLE, Int.reduceNeg, Int.reduceToNat, Int.reduceAdd, Int.reduceSub, ↓reduceIte, reduceCtorEq, decide_eq_true (show (b.length : Int) - ((b.length - rs1.length : Nat) : Int) < n from by omega)]
      exact Fin_weak (weak_put 5 (.imm true 1 []) fun E u h => den_nil_imm h) (fin_ret (by rfl) (by simp [subMem, Dk.find]))
    · rw [if_neg (by simp [c1])] at h
      have hr : rawR (n : Int) (rs1, 0) = (l, rs2, e2) := by rw [rawR, if_neg (by omega)]; simpa using h
      have hn2 : (n : Int) ≤ 9223372036854775807 := hn.2 rfl
      refine con_of_ev true [0, 1, 2, 4, 5, 6, 7, 19, 29] 38 Try.func61 (code := _) rfl rfl Try.ntmps61 (by simp) [.cell 4 44, .tmp 5] (by rw [Try.results61]) ?_
      simp (maxSteps := 2000000) (disch := omega) only [go_sem, Int.reduceEq, Int.reduceNe, Nat.reduceBEq, Nat.reduceLT, Nat.reduceLeDiff, Nat.reduceAdd, Nat.reduceSub, Nat.reduceMul, Nat.reduceEqDiff, Int.reduceLT, Int.reduceLE, Int.reduceNeg, Int.reduceToNat, Int.reduceAdd, Int.reduceSub, ↓reduceIte, reduceCtorEq, hM]
      refine awCall_con [] [] (rGetVar b rs e M most hl hs hM2 hM3 h1) ?_ ?_ ?_ ?_ ?_; (focus kernel_rfl); (focus exact (.inl rfl)); (focus (simp [go_sem]; done)); (focus (simp [go_sem]; done)); rintro _ rfl; simp (maxSteps := 2000000) (disch := omega) only [go_sem, Int.reduceEq, Int.reduceNe, Nat.reduceBEq, Nat.reduceLT, Nat.reduceLeDiff, Nat.reduceAdd, Nat.reduceSub, Nat.reduceMul, Nat.reduceEqDiff, Int.reduceLT, Int.reduceLE, Int.reduceNeg, Int.reduceToNat, Int.reduceAdd, Int.reduceSub, ↓reduceIte, reduceCtorEq]
      simp (maxSteps := 2000000) (disch := omega) only [go_sem, Int.reduceEq, Int.reduceNe, Nat.reduceBEq, Nat.reduceLT, Nat.reduceLeDiff, Nat.reduceAdd, Nat.reduceSub, Nat.reduceMul, Nat.reduceEqDiff, Int.reduceLT, Int.reduceLE, Int.reduceNeg, Int.reduceToNat, Int.reduceAdd, Int.reduceSub, ↓reduceIte, reduceCtorEq, decide_eq_false (show ¬ (b.length : Int) - ((b.length - rs1.length : Nat) : Int) < n from by omega)]
      refine awCall_con [] [] (rRaw b rs1 0 n hl hs1 (by omega) hr) ?_ ?_ ?_ ?_ ?_; (focus kernel_rfl); (focus exact (.inl rfl)); (focus (simp [go_sem]; done)); (focus (simp [go_sem]; done)); rintro _ rfl; simp (maxSteps := 2000000) (disch := omega) only [go_sem, Int.reduceEq, Int.reduceNe, Nat.reduceBEq, Nat.reduceLT, Nat.reduceLeDiff, Nat.reduceAdd, Nat.reduceSub, Nat.reduceMul, Nat.reduceEqDiff, Int.reduceLT, Int.reduceLE, Int.reduceNeg, Int.reduceToNat, Int.reduceAdd, Int.reduceSub, ↓reduceIte, reduceCtorEq]
      exact fin_ret (by rfl) (by simp [subMem, Dk.find])
  · rw [if_neg (by simp [c0])] at h
    have h2 : getT n (rs1, e1) = ([], rs1, e1) := by simp [getT, takeR, c0]
    rw [h2] at h
    simp only [Prod.mk.injEq] at h
    obtain ⟨rfl, rfl, rfl⟩ := h
    refine con_of_ev true [0, 1, 2, 4, 5, 6, 7, 19, 29] 38 Try.func61 (code := _) rfl rfl Try.ntmps61 (by simp) [.cell 4 44, .tmp 5] (by rw [Try.results61]) ?_
    simp (maxSteps := 2000000) (disch := omega) only [go_sem, Int.reduceEq, Int.reduceNe, Nat.reduceBEq, Nat.reduceLT, Nat.reduceLeDiff, Nat.reduceAdd, Nat.reduceSub, Nat.reduceMul, Nat.reduceEqDiff, Int.reduceLT, Int.reduceLE, Int.reduceNeg, Int.reduceToNat, Int.reduceAdd, Int.reduceSub, ↓reduceIte, reduceCtorEq, hM]
    refine awCall_con [] [] (rGetVar b rs e M most hl hs hM2 hM3 h1) ?_ ?_ ?_ ?_ ?_; (focus kernel_rfl); (focus exact (.inl rfl)); (focus (simp [go_sem]; done)); (focus (simp [go_sem]; done)); rintro _ rfl; simp (maxSteps := 2000000) (disch := omega) only [go_sem, Int.reduceEq, Int.reduceNe, Nat.reduceBEq, Nat.reduceLT, Nat.reduceLeDiff, Nat.reduceAdd, Nat.reduceSub, Nat.reduceMul, Nat.reduceEqDiff, Int.reduceLT, Int.reduceLE, Int.reduceNeg, Int.reduceToNat, Int.reduceAdd, Int.reduceSub, ↓reduceIte, reduceCtorEq]
    simp (maxSteps := 2000000) (disch := omega) only [go_sem, Int.reduceEq, Int.reduceNe, Nat.reduceBEq, Nat.reduceLT, Nat.reduceLeDiff, Nat.reduceAdd, Nat.reduceSub, Nat.reduceMul, Nat.reduceEqDiff, Int.reduceLT, Int.reduceLE, Int.reduceNeg, Int.reduceToNat, Int.reduceAdd, Int.reduceSub, ↓reduceIte, reduceCtorEq, c0, decide_eq_false c0]
    exact Fin_weak (weak_put 5 (.imm true 1 []) fun E u h => den_nil_imm h) (fin_ret (by rfl) (by simp [subMem, Dk.find]))
end Go.Proofs.Ytjmkgpkgagohoaa
