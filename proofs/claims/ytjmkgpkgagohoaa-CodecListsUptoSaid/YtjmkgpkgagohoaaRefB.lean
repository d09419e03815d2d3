/-
  RefB: contracts of functions of the program, and what follows from them.
-/
import Derived.Test.YtjmkgpkgagohoaaTyCodec
import Derived.Test.YtjmkgpkgagohoaaRefA
import Derived.Test.YtjmkgpkgagohoaaPlSuf
set_option linter.all false
namespace Go.Proofs.Ytjmkgpkgagohoaa
open Go Go.Dk
set_option linter.unusedSimpArgs false
set_option linter.unusedVariables false
set_option maxRecDepth 10000
set_option maxHeartbeats 4000000

theorem rRaw (b rs : List UInt8) (e n : Int) (hl : b.length < 1000000000000) (hs : rs <:+ b) (hn : -9223372036854775808 ≤ n ∧ n ≤ 9223372036854775807) {l rs2 : List UInt8} {e2 : Int} (h : rawR n (rs, e) = (l, rs2, e2)) :
    (Con.mk [.agg [.imm false 1 (rowsB (b)), .v (.int .i64 (((b).length - (rs).length : Nat) : Int)), .v (.int .i64 (e))], .v (.int .i64 n)] [] [] (.tup [.agg [.imm false 1 (rowsB (b)), .v (.int .i64 (((b).length - (rs2).length : Nat) : Int)), .v (.int .i64 (e2))], .imm true 1 (rowsB l)]) []).ok Try.prog 59 := by
  refine ⟨?_, by simp [Con.wf, ids, inA, inM, inB, inL_nil, inL_cons, inL_append, inL_cellsB, inL_dat]⟩
  have hle := hs.length_le
  have hd := suf_drop hs
  by_cases c0 : e = 0
  · subst c0
    by_cases c1 : n < 0
    · rw [rawR_neg c1] at h
      simp only [if_true, Prod.mk.injEq] at h
      obtain ⟨rfl, rfl, rfl⟩ := h
      refine con_of_ev true [0, 1, 2, 4, 5, 6, 7, 12, 17] 46 Try.func59 (code := _) rfl rfl Try.ntmps59 (by simp) [.cell 4 44, .tmp 5] (by rw [Try.results59]) ?_
      simp (maxSteps := 2000000) (disch := omega) only [go_sem, Int.reduceEq, Int.reduceNe, Nat.reduceBEq, Nat.reduceLT, Nat.reduceLeDiff, Nat.reduceAdd, Nat.reduceSub, Nat.reduceMul, Nat.reduceEqDiff, Int.reduceLT, Int.reduceLE, Int.reduceNeg, Int.reduceToNat, Int.reduceAdd, Int.reduceSub, ↓reduceIte, reduceCtorEq, decide_eq_true c1]
      exact Fin_weak (weak_put 5 (.imm true 1 []) fun E u h => den_nil_imm h) (fin_ret (by rfl) (by simp [subMem, Dk.find]))
    · obtain ⟨k, rfl⟩ : ∃ k : Nat, n = k := ⟨n.toNat, by omega⟩
      by_cases c2 : rs.length < k
      · rw [rawR_short c2] at h
        simp only [Prod.mk.injEq] at h
        obtain ⟨rfl, rfl, rfl⟩ := h
        refine con_of_ev true [0, 1, 2, 4, 5, 6, 7, 12, 17] 46 Try.func59 (code := _) rfl rfl Try.ntmps59 (by simp) [.cell 4 44, .tmp 5] (by rw [Try.results59]) ?_
        simp (maxSteps := 2000000) (disch := omega) only [go_sem, Int.reduceEq, Int.reduceNe, Nat.reduceBEq, Nat.reduceLT, Nat.reduceLeDiff, Nat.reduceAdd, Nat.reduceSub, Nat.reduceMul, Nat.reduceEqDiff, Int.reduceLT, Int.reduceLE, Int.reduceNeg, Int.reduceToNat, Int.reduceAdd, Int.reduceSub, ↓reduceIte, reduceCtorEq, decide_eq_false c1, decide_eq_true (show (b.length : Int) - ((b.length - rs.length : Nat) : Int) < k from by omega)]
        exact Fin_weak (weak_put 5 (.imm true 1 []) fun E u h => den_nil_imm h) (fin_ret (by rfl) (by simp [subMem, Dk.find]))
      · rw [rawR_fine (by omega)] at h
        simp only [Prod.mk.injEq] at h
        obtain ⟨rfl, rfl, rfl⟩ := h
        refine con_of_ev true [0, 1, 2, 4, 5, 6, 7, 12, 17] 46 Try.func59 (code := _) rfl rfl Try.ntmps59 (by simp) [.cell 4 44, .tmp 5] (by rw [Try.results59]) ?_
        simp (maxSteps := 2000000) (disch := omega) only [go_sem, Int.reduceEq, Int.reduceNe, Nat.reduceBEq, Nat.reduceLT, Nat.reduceLeDiff, Nat.reduceAdd, Nat.reduceSub, Nat.reduceMul, Nat.reduceEqDiff, Int.reduceLT, Int.reduceLE, Int.reduceNeg, Int.reduceToNat, Int.reduceAdd, Int.reduceSub, ↓reduceIte, reduceCtorEq, decide_eq_false c1, decide_eq_false (show ¬ (b.length : Int) - ((b.length - rs.length : Nat) : Int) < k from by omega)]
        have e1 : (((b.length - rs.length : Nat) : Int) + (k : Int)).toNat - (b.length - rs.length) = k := by omega
        have e2 : min k (b.length - (b.length - rs.length)) = (rs.take k).length := by simp; omega
        have e3 : ((b.length - rs.length : Nat) : Int) + (k : Int) = ((b.length - (rs.length - k) : Nat) : Int) := by omega
        rw [e1, e2, hd, e3]
        generalize rs.take k = l
        generalize b.length - (rs.length - k) = q
        exact Fin_weak (weak_freeze true 38 rfl (.inr (strongL_cellsB _)) rfl) (fin_ret (by simp [resA, resL, resOne, Dk.look, frzE, frz, frzIf, frzSl_bytes, frzM, frzBk, frzL, Dk.find, Dk.erase]; rfl) (by simp [subMem, Dk.find, Dk.erase, frzM, frzBk, frzL, frz, frzIf, frzSl_bytes]))
  · rw [rawR_bad c0] at h
    simp only [Prod.mk.injEq] at h
    obtain ⟨rfl, rfl, rfl⟩ := h
    refine con_of_ev true [0, 1, 2, 4, 5, 6, 7, 12, 17] 46 Try.func59 (code := _) rfl rfl Try.ntmps59 (by simp) [.cell 4 44, .tmp 5] (by rw [Try.results59]) ?_
    simp (maxSteps := 2000000) (disch := omega) only [go_sem, Int.reduceEq, Int.reduceNe, Nat.reduceBEq, Nat.reduceLT, Nat.reduceLeDiff, Nat.reduceAdd, Nat.reduceSub, Nat.reduceMul, Nat.reduceEqDiff, Int.reduceLT, Int.reduceLE, Int.reduceNeg, Int.reduceToNat, Int.reduceAdd, Int.reduceSub, ↓reduceIte, reduceCtorEq, decide_eq_true c0, c0]
    exact Fin_weak (weak_put 5 (.imm true 1 []) fun E u h => den_nil_imm h) (fin_ret (by rfl) (by simp [subMem, Dk.find]))

theorem rGet (b rs : List UInt8) (e : Int) (n : Nat) (hl : b.length < 1000000000000) (hs : rs <:+ b) (hn : n ≤ 8) {c : Nat} {rs2 : List UInt8} {e2 : Int} (h : highR n (rs, e) = (c, rs2, e2)) :
    (Con.mk [.agg [.imm false 1 (rowsB (b)), .v (.int .i64 (((b).length - (rs).length : Nat) : Int)), .v (.int .i64 (e))], .v (.int .i64 n)] [] [] (.tup [.agg [.imm false 1 (rowsB (b)), .v (.int .i64 (((b).length - (rs2).length : Nat) : Int)), .v (.int .i64 (e2))], .v (.int .u64 c)]) []).ok Try.prog 55 := by
  refine ⟨?_, by simp [Con.wf, ids, inA, inM, inB, inL_nil, inL_cons, inL_append, inL_cellsB, inL_dat]⟩
  obtain ⟨l, rs3, e3, h1⟩ : ∃ l rs3 e3, rawR n (rs, e) = (l, rs3, e3) := ⟨_, _, _, rfl⟩
  rw [high_raw, h1] at h
  simp only [Prod.mk.injEq] at h
  obtain ⟨rfl, rfl, rfl⟩ := h
  have hll : l.length ≤ 8 := by
    rw [rawR, if_neg (by omega)] at h1
    have := getT_length h1
    omega
  refine con_of_ev true [0, 1, 2, 4, 5, 6] 16 Try.func55 (code := _) rfl rfl Try.ntmps55 (by simp) [.cell 4 44, .tmp 5] (by rw [Try.results55]) ?_
  simp (maxSteps := 2000000) (disch := omega) only [go_sem, Int.reduceEq, Int.reduceNe, Nat.reduceBEq, Nat.reduceLT, Nat.reduceLeDiff, Nat.reduceAdd, Nat.reduceSub, Nat.reduceMul, Nat.reduceEqDiff, Int.reduceLT, Int.reduceLE, Int.reduceNeg, Int.reduceToNat, Int.reduceAdd, Int.reduceSub, ↓reduceIte, reduceCtorEq]
  refine awCall_con [] [] (rRaw b rs e n hl hs (by omega) h1) ?_ ?_ ?_ ?_ ?_; (focus kernel_rfl); (focus exact (.inl rfl)); (focus (simp [go_sem]; done)); (focus (simp [go_sem]; done)); rintro _ rfl; simp (maxSteps := 2000000) (disch := omega) only [go_sem, Int.reduceEq, Int.reduceNe, Nat.reduceBEq, Nat.reduceLT, Nat.reduceLeDiff, Nat.reduceAdd, Nat.reduceSub, Nat.reduceMul, Nat.reduceEqDiff, Int.reduceLT, Int.reduceLE, Int.reduceNeg, Int.reduceToNat, Int.reduceAdd, Int.reduceSub, ↓reduceIte, reduceCtorEq]
  refine z_draw [⟨[(2, none)], [], false, [0, 1]⟩, ⟨[(6, none)], [], false, [0]⟩, ⟨[(14, some 1)], [1], true, []⟩, ⟨[(4, none), (13, some 0)], [0, 1, 2], true, []⟩, ⟨[(15, some 2)], [0, 1, 2, 3], false, [2]⟩] [2, 3] [(0, none), (1, none), (2, none), (4, none), (5, some 4), (6, none)] [(2, none, 2), (4, none, 2), (13, some 0, 2), (15, some 2, 3), (0, none, 2), (0, none, 3), (1, none, 2), (1, none, 3), (2, none, 3), (4, none, 3), (6, none, 2), (6, none, 3)] mixed (by kernel_rfl) (by kernel_rfl) (by kernel_rfl) ?_
  simp (maxSteps := 2000000) (disch := omega) only [go_sem, Int.reduceEq, Int.reduceNe, Nat.reduceBEq, Nat.reduceLT, Nat.reduceLeDiff, Nat.reduceAdd, Nat.reduceSub, Nat.reduceMul, Nat.reduceEqDiff, Int.reduceLT, Int.reduceLE, Int.reduceNeg, Int.reduceToNat, Int.reduceAdd, Int.reduceSub, ↓reduceIte, reduceCtorEq]
  refine evCall_con [] [] (rSaid l hll) ?_ ?_ ?_ ?_ ?_; (focus kernel_rfl); (focus exact (.inl rfl)); (focus (simp [go_sem]; done)); (focus (simp [go_sem]; done)); rintro _ rfl; simp (maxSteps := 2000000) (disch := omega) only [go_sem, Int.reduceEq, Int.reduceNe, Nat.reduceBEq, Nat.reduceLT, Nat.reduceLeDiff, Nat.reduceAdd, Nat.reduceSub, Nat.reduceMul, Nat.reduceEqDiff, Int.reduceLT, Int.reduceLE, Int.reduceNeg, Int.reduceToNat, Int.reduceAdd, Int.reduceSub, ↓reduceIte, reduceCtorEq]
  exact fin_ret (by rfl) (by simp [subMem, Dk.find])

theorem rEnd (b rs : List UInt8) (e : Int) (hl : b.length < 1000000000000) (hs : rs <:+ b) {x : Int} (hx : (if e = 0 ∧ rs ≠ [] then (13 : Int) else e) = x) :
    (Con.mk [.agg [.imm false 1 (rowsB (b)), .v (.int .i64 (((b).length - (rs).length : Nat) : Int)), .v (.int .i64 (e))]] [] [] (.v (.int .i64 x)) []).ok Try.prog 28 := by
  refine ⟨?_, by simp [Con.wf, ids, inA, inM, inB, inL_nil, inL_cons, inL_append, inL_cellsB, inL_dat]⟩
  have hle := hs.length_le
  by_cases c0 : e = 0
  · subst c0
    by_cases c1 : rs = []
    · subst c1
      rw [if_neg (by simp)] at hx
      subst hx
      have e1 : ¬ ((b.length - 0 : Nat) : Int) < b.length := by omega
      refine con_of_ev true [0, 1, 2, 13] 16 Try.func28 (code := _) rfl rfl Try.ntmps28 (by simp) [.tmp 2] (by rw [Try.results28]) ?_
      simp (maxSteps := 2000000) (disch := omega) only [go_sem, Int.reduceEq, Int.reduceNe, Nat.reduceBEq, Nat.reduceLT, Nat.reduceLeDiff, Nat.reduceAdd, Nat.reduceSub, Nat.reduceMul, Nat.reduceEqDiff, Int.reduceLT, Int.reduceLE, Int.reduceNeg, Int.reduceToNat, Int.reduceAdd, Int.reduceSub, ↓reduceIte, reduceCtorEq, List.length_nil, e1, decide_eq_false e1]
      exact fin_ret (by rfl) (by simp [subMem, Dk.find])
    · have := List.length_pos_iff.2 c1
      rw [if_pos ⟨rfl, c1⟩] at hx
      subst hx
      have e1 : ((b.length - rs.length : Nat) : Int) < b.length := by omega
      refine con_of_ev true [0, 1, 2, 13] 16 Try.func28 (code := _) rfl rfl Try.ntmps28 (by simp) [.tmp 2] (by rw [Try.results28]) ?_
      simp (maxSteps := 2000000) (disch := omega) only [go_sem, Int.reduceEq, Int.reduceNe, Nat.reduceBEq, Nat.reduceLT, Nat.reduceLeDiff, Nat.reduceAdd, Nat.reduceSub, Nat.reduceMul, Nat.reduceEqDiff, Int.reduceLT, Int.reduceLE, Int.reduceNeg, Int.reduceToNat, Int.reduceAdd, Int.reduceSub, ↓reduceIte, reduceCtorEq, e1, decide_eq_true e1]
      exact fin_ret (by rfl) (by simp [subMem, Dk.find])
  · rw [if_neg (by simp [c0])] at hx
    subst hx
    refine con_of_ev true [0, 1, 2, 13] 16 Try.func28 (code := _) rfl rfl Try.ntmps28 (by simp) [.tmp 2] (by rw [Try.results28]) ?_
    simp (maxSteps := 2000000) (disch := omega) only [go_sem, Int.reduceEq, Int.reduceNe, Nat.reduceBEq, Nat.reduceLT, Nat.reduceLeDiff, Nat.reduceAdd, Nat.reduceSub, Nat.reduceMul, Nat.reduceEqDiff, Int.reduceLT, Int.reduceLE, Int.reduceNeg, Int.reduceToNat, Int.reduceAdd, Int.reduceSub, ↓reduceIte, reduceCtorEq, c0]
    exact fin_ret (by rfl) (by simp [subMem, Dk.find])
end Go.Proofs.Ytjmkgpkgagohoaa
