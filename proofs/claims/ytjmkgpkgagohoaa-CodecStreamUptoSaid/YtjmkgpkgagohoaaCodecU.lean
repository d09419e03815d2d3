/-
  CodecU: contracts of functions of the program, and what follows from them.
-/
import Derived.Test.YtjmkgpkgagohoaaTyCodec
import Derived.Test.YtjmkgpkgagohoaaCodecT
set_option linter.all false
namespace Go.Proofs.Ytjmkgpkgagohoaa
open Go Go.Dk
set_option linter.unusedSimpArgs false
set_option linter.unusedVariables false
set_option maxRecDepth 10000
set_option maxHeartbeats 4000000
set_option pp.deepTerms true
set_option pp.maxSteps 1000000

theorem Unframe (b : List UInt8) (hl : b.length < 100000000000) {x : List UInt8} {n : Nat} {e : Int} (h : unframeU b = (x, n, e)) :
    (Con.mk [.imm false 1 (rowsB b)] [] [] (.tup [.imm true 1 (rowsB x), .v (.int .i64 n), .v (.int .i64 e)]) []).ok Try.prog 42 := by
  refine ⟨?_, by simp [Con.wf, ids, inA, inM, inB, inL_nil, inL_cons, inL_append, inL_cellsB, inL_dat]⟩
  obtain ⟨n1, r1, e1, h1⟩ : ∃ n1 r1 e1, highR 4 (b, 0) = (n1, r1, e1) := ⟨_, _, _, rfl⟩
  obtain ⟨s1, r2, e2, h2⟩ : ∃ s1 r2 e2, highR 4 (r1, e1) = (s1, r2, e2) := ⟨_, _, _, rfl⟩
  have hle1 := highR_le h1
  have hle2 := highR_le h2
  dsimp only at hle1 hle2
  have hn1 := highR_lt h1
  by_cases c0 : e2 = 0
  · subst c0
    obtain ⟨h8, rfl, rfl, rfl, rfl⟩ := unframe_head h1 h2
    have hb4 : 4 ≤ b.length := by omega
    unfold unframeU at h
    rw [if_neg (by omega)] at h
    refine con_of_ev true [0, 2, 3, 4, 5, 6, 7, 8, 15, 21, 27, 36, 42] 51 Try.func42 (code := _) rfl rfl Try.ntmps42 (by simp) [.tmp 2, .tmp 3, .tmp 4] (by rw [Try.results42]) ?_
    simp (maxSteps := 2000000) (disch := omega) only [go_sem, List.length_map, Int.reduceEq, Int.reduceNe, Nat.reduceBEq, Nat.reduceLT, Nat.reduceLeDiff, Nat.reduceAdd, Nat.reduceSub, Nat.reduceMul, Nat.reduceEqDiff, Int.reduceLT, Int.reduceLE, Int.reduceNeg, Int.reduceToNat, Int.reduceAdd, Int.reduceSub, ↓reduceIte, reduceCtorEq]
    refine awCall_con [(6, 200)] [] (Read b (by omega)) ?_ ?_ ?_ ?_ ?_; (focus kernel_rfl); (focus exact (.inl rfl)); (focus (simp [go_sem]; done)); (focus (simp [go_sem]; done)); rintro _ rfl; simp (maxSteps := 2000000) (disch := omega) only [go_sem, List.length_map, Int.reduceEq, Int.reduceNe, Nat.reduceBEq, Nat.reduceLT, Nat.reduceLeDiff, Nat.reduceAdd, Nat.reduceSub, Nat.reduceMul, Nat.reduceEqDiff, Int.reduceLT, Int.reduceLE, Int.reduceNeg, Int.reduceToNat, Int.reduceAdd, Int.reduceSub, ↓reduceIte, reduceCtorEq]
    refine awCall_con [(1000, 200)] [] (Reader_Word b 0 (by omega) h1) ?_ ?_ ?_ ?_ ?_; (focus kernel_rfl); (focus exact (.inl rfl)); (focus (simp [go_sem]; done)); (focus (simp [go_sem]; done)); rintro _ rfl; simp (maxSteps := 2000000) (disch := omega) only [go_sem, List.length_map, Int.reduceEq, Int.reduceNe, Nat.reduceBEq, Nat.reduceLT, Nat.reduceLeDiff, Nat.reduceAdd, Nat.reduceSub, Nat.reduceMul, Nat.reduceEqDiff, Int.reduceLT, Int.reduceLE, Int.reduceNeg, Int.reduceToNat, Int.reduceAdd, Int.reduceSub, ↓reduceIte, reduceCtorEq]
    refine awCall_con [(1000, 200)] [] (Reader_Word r1 0 (by omega) h2) ?_ ?_ ?_ ?_ ?_; (focus kernel_rfl); (focus exact (.inl rfl)); (focus (simp [go_sem]; done)); (focus (simp [go_sem]; done)); rintro _ rfl; simp (maxSteps := 2000000) (disch := omega) only [go_sem, List.length_map, Int.reduceEq, Int.reduceNe, Nat.reduceBEq, Nat.reduceLT, Nat.reduceLeDiff, Nat.reduceAdd, Nat.reduceSub, Nat.reduceMul, Nat.reduceEqDiff, Int.reduceLT, Int.reduceLE, Int.reduceNeg, Int.reduceToNat, Int.reduceAdd, Int.reduceSub, ↓reduceIte, reduceCtorEq]
    refine awCall_con [] [] (Sum (b.take 4) (by simp; omega)) ?_ ?_ ?_ ?_ ?_; (focus kernel_rfl); (focus exact (.inl rfl)); (focus (simp [go_sem]; done)); (focus (simp [go_sem]; done)); rintro _ rfl; simp (maxSteps := 2000000) (disch := omega) only [go_sem, List.length_map, Int.reduceEq, Int.reduceNe, Nat.reduceBEq, Nat.reduceLT, Nat.reduceLeDiff, Nat.reduceAdd, Nat.reduceSub, Nat.reduceMul, Nat.reduceEqDiff, Int.reduceLT, Int.reduceLE, Int.reduceNeg, Int.reduceToNat, Int.reduceAdd, Int.reduceSub, ↓reduceIte, reduceCtorEq]
    by_cases c1 : numB ((b.drop 4).take 4) = (sumC (b.take 4)).toNat
    · rw [if_neg (by simp [c1])] at h
      have c1' : ((numB ((b.drop 4).take 4) : Nat) : Int) = (((sumC (b.take 4)).toNat : Nat) : Int) := by rw [c1]
      by_cases c2 : 16777216 < numB (b.take 4)
      · rw [if_pos c2] at h
        simp only [Prod.mk.injEq] at h
        obtain ⟨rfl, rfl, rfl⟩ := h
        simp (maxSteps := 2000000) (disch := omega) only [go_sem, List.length_map, Int.reduceEq, Int.reduceNe, Nat.reduceBEq, Nat.reduceLT, Nat.reduceLeDiff, Nat.reduceAdd, Nat.reduceSub, Nat.reduceMul, Nat.reduceEqDiff, Int.reduceLT, Int.reduceLE, Int.reduceNeg, Int.reduceToNat, Int.reduceAdd, Int.reduceSub, ↓reduceIte, reduceCtorEq, decide_eq_true c1', decide_eq_true (show (16777216 : Int) < ((numB (b.take 4) : Nat) : Int) from by omega)]
        exact Fin_weak (weak_put 2 (.imm true 1 []) fun E u h => den_nil_imm h) (fin_ret (by rfl) (by simp [subMem, Dk.find]))
      · rw [if_neg c2] at h
        obtain ⟨x1, r3, e3, h3⟩ : ∃ x1 r3 e3, rawR ((numB (b.take 4) : Nat) : Int) (b.drop 8, 0) = (x1, r3, e3) := ⟨_, _, _, rfl⟩
        obtain ⟨s2, r4, e4, h4⟩ : ∃ s2 r4 e4, highR 4 (r3, e3) = (s2, r4, e4) := ⟨_, _, _, rfl⟩
        have hle3 := (rawR_suf h3).length_le
        have hle4 : (b.drop 8).length ≤ b.length := by simp
        dsimp only at hle3
        have hx1 : x1.length ≤ numB (b.take 4) := by rw [rawR, if_neg (by omega)] at h3; exact getT_length h3
        simp (maxSteps := 2000000) (disch := omega) only [go_sem, List.length_map, Int.reduceEq, Int.reduceNe, Nat.reduceBEq, Nat.reduceLT, Nat.reduceLeDiff, Nat.reduceAdd, Nat.reduceSub, Nat.reduceMul, Nat.reduceEqDiff, Int.reduceLT, Int.reduceLE, Int.reduceNeg, Int.reduceToNat, Int.reduceAdd, Int.reduceSub, ↓reduceIte, reduceCtorEq, decide_eq_true c1', decide_eq_false (show ¬ (16777216 : Int) < ((numB (b.take 4) : Nat) : Int) from by omega)]
        refine awCall_con [(1000, 200)] [] (Reader_Raw (b.drop 8) 0 ((numB (b.take 4) : Nat) : Int) (by omega) (by omega) h3) ?_ ?_ ?_ ?_ ?_; (focus kernel_rfl); (focus exact (.inl rfl)); (focus (simp [go_sem]; done)); (focus (simp [go_sem]; done)); rintro _ rfl; simp (maxSteps := 2000000) (disch := omega) only [go_sem, List.length_map, Int.reduceEq, Int.reduceNe, Nat.reduceBEq, Nat.reduceLT, Nat.reduceLeDiff, Nat.reduceAdd, Nat.reduceSub, Nat.reduceMul, Nat.reduceEqDiff, Int.reduceLT, Int.reduceLE, Int.reduceNeg, Int.reduceToNat, Int.reduceAdd, Int.reduceSub, ↓reduceIte, reduceCtorEq]
        refine awCall_con [(1000, 200)] [] (Reader_Word r3 e3 (by omega) h4) ?_ ?_ ?_ ?_ ?_; (focus kernel_rfl); (focus exact (.inl rfl)); (focus (simp [go_sem]; done)); (focus (simp [go_sem]; done)); rintro _ rfl; simp (maxSteps := 2000000) (disch := omega) only [go_sem, List.length_map, Int.reduceEq, Int.reduceNe, Nat.reduceBEq, Nat.reduceLT, Nat.reduceLeDiff, Nat.reduceAdd, Nat.reduceSub, Nat.reduceMul, Nat.reduceEqDiff, Int.reduceLT, Int.reduceLE, Int.reduceNeg, Int.reduceToNat, Int.reduceAdd, Int.reduceSub, ↓reduceIte, reduceCtorEq]
        rcases unframe_tail h3 h4 h8 with ⟨c3, c4⟩ | ⟨c3, c4, rfl, rfl⟩
        · rw [if_pos c4] at h
          simp only [Prod.mk.injEq] at h
          obtain ⟨rfl, rfl, rfl⟩ := h
          simp (maxSteps := 2000000) (disch := omega) only [go_sem, List.length_map, Int.reduceEq, Int.reduceNe, Nat.reduceBEq, Nat.reduceLT, Nat.reduceLeDiff, Nat.reduceAdd, Nat.reduceSub, Nat.reduceMul, Nat.reduceEqDiff, Int.reduceLT, Int.reduceLE, Int.reduceNeg, Int.reduceToNat, Int.reduceAdd, Int.reduceSub, ↓reduceIte, reduceCtorEq, c3]
          exact Fin_weak (weak_put 2 (.imm true 1 []) fun E u h => den_nil_imm h) (fin_ret (by rfl) (by simp [subMem, Dk.find]))
        · subst c3
          rw [if_neg (by omega)] at h
          simp (maxSteps := 2000000) (disch := omega) only [go_sem, List.length_map, Int.reduceEq, Int.reduceNe, Nat.reduceBEq, Nat.reduceLT, Nat.reduceLeDiff, Nat.reduceAdd, Nat.reduceSub, Nat.reduceMul, Nat.reduceEqDiff, Int.reduceLT, Int.reduceLE, Int.reduceNeg, Int.reduceToNat, Int.reduceAdd, Int.reduceSub, ↓reduceIte, reduceCtorEq]
          refine awCall_con [] [] (Sum ((b.drop 8).take (numB (b.take 4))) (by simp; omega)) ?_ ?_ ?_ ?_ ?_; (focus kernel_rfl); (focus exact (.inl rfl)); (focus (simp [go_sem]; done)); (focus (simp [go_sem]; done)); rintro _ rfl; simp (maxSteps := 2000000) (disch := omega) only [go_sem, List.length_map, Int.reduceEq, Int.reduceNe, Nat.reduceBEq, Nat.reduceLT, Nat.reduceLeDiff, Nat.reduceAdd, Nat.reduceSub, Nat.reduceMul, Nat.reduceEqDiff, Int.reduceLT, Int.reduceLE, Int.reduceNeg, Int.reduceToNat, Int.reduceAdd, Int.reduceSub, ↓reduceIte, reduceCtorEq]
          by_cases c5 : numB ((b.drop (8 + numB (b.take 4))).take 4) = (sumC ((b.drop 8).take (numB (b.take 4)))).toNat
          · rw [if_neg (by simp [c5])] at h
            simp only [Prod.mk.injEq] at h
            obtain ⟨rfl, rfl, rfl⟩ := h
            have c5' : ((numB ((b.drop (8 + numB (b.take 4))).take 4) : Nat) : Int) = (((sumC ((b.drop 8).take (numB (b.take 4)))).toNat : Nat) : Int) := by rw [c5]
            simp (maxSteps := 2000000) (disch := omega) only [go_sem, List.length_map, Int.reduceEq, Int.reduceNe, Nat.reduceBEq, Nat.reduceLT, Nat.reduceLeDiff, Nat.reduceAdd, Nat.reduceSub, Nat.reduceMul, Nat.reduceEqDiff, Int.reduceLT, Int.reduceLE, Int.reduceNeg, Int.reduceToNat, Int.reduceAdd, Int.reduceSub, ↓reduceIte, reduceCtorEq, decide_eq_true c5']
            rw [show ((numB (b.take 4) + 12 : Nat) : Int) = ((numB (b.take 4) : Nat) : Int) + 12 from rfl]
            exact fin_ret (by rfl) (by simp [subMem, Dk.find])
          · rw [if_pos c5] at h
            simp only [Prod.mk.injEq] at h
            obtain ⟨rfl, rfl, rfl⟩ := h
            have c5' : ¬ ((numB ((b.drop (8 + numB (b.take 4))).take 4) : Nat) : Int) = (((sumC ((b.drop 8).take (numB (b.take 4)))).toNat : Nat) : Int) := by exact_mod_cast c5
            simp (maxSteps := 2000000) (disch := omega) only [go_sem, List.length_map, Int.reduceEq, Int.reduceNe, Nat.reduceBEq, Nat.reduceLT, Nat.reduceLeDiff, Nat.reduceAdd, Nat.reduceSub, Nat.reduceMul, Nat.reduceEqDiff, Int.reduceLT, Int.reduceLE, Int.reduceNeg, Int.reduceToNat, Int.reduceAdd, Int.reduceSub, ↓reduceIte, reduceCtorEq, decide_eq_false c5']
            exact Fin_weak (weak_put 2 (.imm true 1 []) fun E u h => den_nil_imm h) (fin_ret (by rfl) (by simp [subMem, Dk.find]))
    · rw [if_pos c1] at h
      simp only [Prod.mk.injEq] at h
      obtain ⟨rfl, rfl, rfl⟩ := h
      have c1' : ¬ ((numB ((b.drop 4).take 4) : Nat) : Int) = (((sumC (b.take 4)).toNat : Nat) : Int) := by exact_mod_cast c1
      simp (maxSteps := 2000000) (disch := omega) only [go_sem, List.length_map, Int.reduceEq, Int.reduceNe, Nat.reduceBEq, Nat.reduceLT, Nat.reduceLeDiff, Nat.reduceAdd, Nat.reduceSub, Nat.reduceMul, Nat.reduceEqDiff, Int.reduceLT, Int.reduceLE, Int.reduceNeg, Int.reduceToNat, Int.reduceAdd, Int.reduceSub, ↓reduceIte, reduceCtorEq, decide_eq_false c1']
      exact Fin_weak (weak_put 2 (.imm true 1 []) fun E u h => den_nil_imm h) (fin_ret (by rfl) (by simp [subMem, Dk.find]))
  · rw [unframe_short h1 h2 c0] at h
    simp only [Prod.mk.injEq] at h
    obtain ⟨rfl, rfl, rfl⟩ := h
    refine con_of_ev true [0, 2, 3, 4, 5, 6, 7, 8, 15, 21, 27, 36, 42] 51 Try.func42 (code := _) rfl rfl Try.ntmps42 (by simp) [.tmp 2, .tmp 3, .tmp 4] (by rw [Try.results42]) ?_
    simp (maxSteps := 2000000) (disch := omega) only [go_sem, List.length_map, Int.reduceEq, Int.reduceNe, Nat.reduceBEq, Nat.reduceLT, Nat.reduceLeDiff, Nat.reduceAdd, Nat.reduceSub, Nat.reduceMul, Nat.reduceEqDiff, Int.reduceLT, Int.reduceLE, Int.reduceNeg, Int.reduceToNat, Int.reduceAdd, Int.reduceSub, ↓reduceIte, reduceCtorEq]
    refine awCall_con [(6, 200)] [] (Read b (by omega)) ?_ ?_ ?_ ?_ ?_; (focus kernel_rfl); (focus exact (.inl rfl)); (focus (simp [go_sem]; done)); (focus (simp [go_sem]; done)); rintro _ rfl; simp (maxSteps := 2000000) (disch := omega) only [go_sem, List.length_map, Int.reduceEq, Int.reduceNe, Nat.reduceBEq, Nat.reduceLT, Nat.reduceLeDiff, Nat.reduceAdd, Nat.reduceSub, Nat.reduceMul, Nat.reduceEqDiff, Int.reduceLT, Int.reduceLE, Int.reduceNeg, Int.reduceToNat, Int.reduceAdd, Int.reduceSub, ↓reduceIte, reduceCtorEq]
    refine awCall_con [(1000, 200)] [] (Reader_Word b 0 (by omega) h1) ?_ ?_ ?_ ?_ ?_; (focus kernel_rfl); (focus exact (.inl rfl)); (focus (simp [go_sem]; done)); (focus (simp [go_sem]; done)); rintro _ rfl; simp (maxSteps := 2000000) (disch := omega) only [go_sem, List.length_map, Int.reduceEq, Int.reduceNe, Nat.reduceBEq, Nat.reduceLT, Nat.reduceLeDiff, Nat.reduceAdd, Nat.reduceSub, Nat.reduceMul, Nat.reduceEqDiff, Int.reduceLT, Int.reduceLE, Int.reduceNeg, Int.reduceToNat, Int.reduceAdd, Int.reduceSub, ↓reduceIte, reduceCtorEq]
    refine awCall_con [(1000, 200)] [] (Reader_Word r1 e1 (by omega) h2) ?_ ?_ ?_ ?_ ?_; (focus kernel_rfl); (focus exact (.inl rfl)); (focus (simp [go_sem]; done)); (focus (simp [go_sem]; done)); rintro _ rfl; simp (maxSteps := 2000000) (disch := omega) only [go_sem, List.length_map, Int.reduceEq, Int.reduceNe, Nat.reduceBEq, Nat.reduceLT, Nat.reduceLeDiff, Nat.reduceAdd, Nat.reduceSub, Nat.reduceMul, Nat.reduceEqDiff, Int.reduceLT, Int.reduceLE, Int.reduceNeg, Int.reduceToNat, Int.reduceAdd, Int.reduceSub, ↓reduceIte, reduceCtorEq]
    simp (maxSteps := 2000000) (disch := omega) only [go_sem, List.length_map, Int.reduceEq, Int.reduceNe, Nat.reduceBEq, Nat.reduceLT, Nat.reduceLeDiff, Nat.reduceAdd, Nat.reduceSub, Nat.reduceMul, Nat.reduceEqDiff, Int.reduceLT, Int.reduceLE, Int.reduceNeg, Int.reduceToNat, Int.reduceAdd, Int.reduceSub, ↓reduceIte, reduceCtorEq, c0]
    exact Fin_weak (weak_put 2 (.imm true 1 []) fun E u h => den_nil_imm h) (fin_ret (by rfl) (by simp [subMem, Dk.find]))

theorem rUnframe (b : List UInt8) (hl : b.length < 100000000000) {x : List UInt8} {n : Nat} {e : Int} (h : unframeU b = (x, n, e)) :
    (Con.mk [.imm false 1 (rowsB b)] [] [] (.tup [.imm false 1 (rowsB x), .v (.int .i64 n), .v (.int .i64 e)]) []).ok Try.prog 43 := by
  refine ⟨?_, by simp [Con.wf, ids, inA, inM, inB, inL_nil, inL_cons, inL_append, inL_cellsB, inL_dat]⟩
  unfold unframeU at h
  by_cases c0 : b.length < 8
  · rw [if_pos c0] at h
    simp only [Prod.mk.injEq] at h
    obtain ⟨rfl, rfl, rfl⟩ := h
    refine con_of_ev true [0, 2, 3, 4, 5, 8, 20, 22, 27, 41] 48 Try.func43 (code := _) rfl rfl Try.ntmps43 (by simp) [.tmp 2, .tmp 3, .tmp 4] (by rw [Try.results43]) ?_
    simp (maxSteps := 2000000) (disch := omega) only [go_sem, List.length_map, Int.reduceEq, Int.reduceNe, Nat.reduceBEq, Nat.reduceLT, Nat.reduceLeDiff, Nat.reduceAdd, Nat.reduceSub, Nat.reduceMul, Nat.reduceEqDiff, Int.reduceLT, Int.reduceLE, Int.reduceNeg, Int.reduceToNat, Int.reduceAdd, Int.reduceSub, ↓reduceIte, reduceCtorEq, decide_eq_true (show (b.length : Int) < 8 from by omega)]
    exact Fin_weak (weak_put 2 (.imm false 1 []) fun E u h => den_nil_imm h) (fin_ret (by rfl) (by simp [subMem, Dk.find]))
  · rw [if_neg c0] at h
    have hn1 : numB (b.take 4) < 4294967296 := by
      refine Nat.lt_of_lt_of_le (numB_lt _) ?_
      have : (b.take 4).length ≤ 4 := by simp; omega
      exact Nat.le_trans (Nat.pow_le_pow_right (by decide) this) (by decide)
    refine con_of_ev true [0, 2, 3, 4, 5, 8, 20, 22, 27, 41] 48 Try.func43 (code := _) rfl rfl Try.ntmps43 (by simp) [.tmp 2, .tmp 3, .tmp 4] (by rw [Try.results43]) ?_
    simp (maxSteps := 2000000) (disch := omega) only [go_sem, List.length_map, Int.reduceEq, Int.reduceNe, Nat.reduceBEq, Nat.reduceLT, Nat.reduceLeDiff, Nat.reduceAdd, Nat.reduceSub, Nat.reduceMul, Nat.reduceEqDiff, Int.reduceLT, Int.reduceLE, Int.reduceNeg, Int.reduceToNat, Int.reduceAdd, Int.reduceSub, ↓reduceIte, reduceCtorEq, decide_eq_false (show ¬ (b.length : Int) < 8 from by omega)]
    refine awCall_con [] [] (rSaid (b.take 4) (by simp; omega)) ?_ ?_ ?_ ?_ ?_; (focus kernel_rfl); (focus exact (.inl rfl)); (focus (simp [go_sem]; done)); (focus (simp [go_sem]; done)); rintro _ rfl; simp (maxSteps := 2000000) (disch := omega) only [go_sem, List.length_map, Int.reduceEq, Int.reduceNe, Nat.reduceBEq, Nat.reduceLT, Nat.reduceLeDiff, Nat.reduceAdd, Nat.reduceSub, Nat.reduceMul, Nat.reduceEqDiff, Int.reduceLT, Int.reduceLE, Int.reduceNeg, Int.reduceToNat, Int.reduceAdd, Int.reduceSub, ↓reduceIte, reduceCtorEq]
    refine z_draw [⟨[(0, none)], [], false, [0]⟩, ⟨[(13, some 0)], [0], false, [0]⟩, ⟨[(14, some 1)], [0, 1], true, []⟩, ⟨[(0, none)], [], false, [0, 1]⟩, ⟨[(16, some 3)], [3], false, [0, 1]⟩, ⟨[(17, some 4)], [0, 1, 2, 3, 4], true, []⟩, ⟨[(18, some 5)], [0, 1, 2, 3, 4, 5], false, [2]⟩, ⟨[(15, some 2), (19, some 6)], [0, 1, 2, 3, 4, 5, 6], false, [2]⟩] [2, 5] [(0, none), (2, none), (3, none), (4, none), (5, none), (8, none), (20, some 7), (22, none), (27, none), (41, none)] [(0, none, 2), (16, some 3, 2), (17, some 4, 2), (15, some 2, 5), (0, none, 5), (2, none, 2), (2, none, 5), (3, none, 2), (3, none, 5), (4, none, 2), (4, none, 5), (5, none, 2), (5, none, 5), (8, none, 2), (8, none, 5), (22, none, 2), (22, none, 5), (27, none, 2), (27, none, 5), (41, none, 2), (41, none, 5)] mixed (by kernel_rfl) (by kernel_rfl) (by kernel_rfl) ?_
    simp (maxSteps := 2000000) (disch := omega) only [go_sem, List.length_map, Int.reduceEq, Int.reduceNe, Nat.reduceBEq, Nat.reduceLT, Nat.reduceLeDiff, Nat.reduceAdd, Nat.reduceSub, Nat.reduceMul, Nat.reduceEqDiff, Int.reduceLT, Int.reduceLE, Int.reduceNeg, Int.reduceToNat, Int.reduceAdd, Int.reduceSub, ↓reduceIte, reduceCtorEq]
    refine evCall_con [] [] (rSaid ((b.drop 4).take 4) (by simp; omega)) ?_ ?_ ?_ ?_ ?_; (focus kernel_rfl); (focus exact (.inl rfl)); (focus (simp [go_sem]; done)); (focus (simp [go_sem]; done)); rintro _ rfl; simp (maxSteps := 2000000) (disch := omega) only [go_sem, List.length_map, Int.reduceEq, Int.reduceNe, Nat.reduceBEq, Nat.reduceLT, Nat.reduceLeDiff, Nat.reduceAdd, Nat.reduceSub, Nat.reduceMul, Nat.reduceEqDiff, Int.reduceLT, Int.reduceLE, Int.reduceNeg, Int.reduceToNat, Int.reduceAdd, Int.reduceSub, ↓reduceIte, reduceCtorEq]
    refine evCall_con [] [] (rSum (b.take 4) (by simp; omega)) ?_ ?_ ?_ ?_ ?_; (focus kernel_rfl); (focus exact (.inl rfl)); (focus (simp [go_sem]; done)); (focus (simp [go_sem]; done)); rintro _ rfl; simp (maxSteps := 2000000) (disch := omega) only [go_sem, List.length_map, Int.reduceEq, Int.reduceNe, Nat.reduceBEq, Nat.reduceLT, Nat.reduceLeDiff, Nat.reduceAdd, Nat.reduceSub, Nat.reduceMul, Nat.reduceEqDiff, Int.reduceLT, Int.reduceLE, Int.reduceNeg, Int.reduceToNat, Int.reduceAdd, Int.reduceSub, ↓reduceIte, reduceCtorEq]
    generalize hN : numB (b.take 4) = N at *
    by_cases c1 : numB ((b.drop 4).take 4) = (sumC (b.take 4)).toNat
    · rw [if_neg (by simp [c1])] at h
      have c1' : ((numB ((b.drop 4).take 4) : Nat) : Int) = (((sumC (b.take 4)).toNat : Nat) : Int) := by rw [c1]
      by_cases c2 : 16777216 < N
      · rw [if_pos c2] at h
        simp only [Prod.mk.injEq] at h
        obtain ⟨rfl, rfl, rfl⟩ := h
        simp (maxSteps := 2000000) (disch := omega) only [go_sem, List.length_map, Int.reduceEq, Int.reduceNe, Nat.reduceBEq, Nat.reduceLT, Nat.reduceLeDiff, Nat.reduceAdd, Nat.reduceSub, Nat.reduceMul, Nat.reduceEqDiff, Int.reduceLT, Int.reduceLE, Int.reduceNeg, Int.reduceToNat, Int.reduceAdd, Int.reduceSub, ↓reduceIte, reduceCtorEq, decide_eq_true c1', decide_eq_true (show (16777216 : Int) < (N : Int) from by omega)]
        exact Fin_weak (weak_put 2 (.imm false 1 []) fun E u h => den_nil_imm h) (fin_ret (by rfl) (by simp [subMem, Dk.find]))
      · rw [if_neg c2] at h
        by_cases c3 : b.length < N + 12
        · rw [if_pos c3] at h
          simp only [Prod.mk.injEq] at h
          obtain ⟨rfl, rfl, rfl⟩ := h
          simp (maxSteps := 2000000) (disch := omega) only [go_sem, List.length_map, Int.reduceEq, Int.reduceNe, Nat.reduceBEq, Nat.reduceLT, Nat.reduceLeDiff, Nat.reduceAdd, Nat.reduceSub, Nat.reduceMul, Nat.reduceEqDiff, Int.reduceLT, Int.reduceLE, Int.reduceNeg, Int.reduceToNat, Int.reduceAdd, Int.reduceSub, ↓reduceIte, reduceCtorEq, decide_eq_true c1', decide_eq_false (show ¬ (16777216 : Int) < (N : Int) from by omega), decide_eq_true (show (b.length : Int) - 12 < (N : Int) from by omega)]
          exact Fin_weak (weak_put 2 (.imm false 1 []) fun E u h => den_nil_imm h) (fin_ret (by rfl) (by simp [subMem, Dk.find]))
        · rw [if_neg c3] at h
          have i1 : (8 + (N : Int)).toNat = 8 + N := by omega
          have i2 : (12 + (N : Int)).toNat - (8 + N) = 4 := by omega
          simp (maxSteps := 2000000) (disch := omega) only [go_sem, List.length_map, Int.reduceEq, Int.reduceNe, Nat.reduceBEq, Nat.reduceLT, Nat.reduceLeDiff, Nat.reduceAdd, Nat.reduceSub, Nat.reduceMul, Nat.reduceEqDiff, Int.reduceLT, Int.reduceLE, Int.reduceNeg, Int.reduceToNat, Int.reduceAdd, Int.reduceSub, ↓reduceIte, reduceCtorEq, decide_eq_true c1', decide_eq_false (show ¬ (16777216 : Int) < (N : Int) from by omega), decide_eq_false (show ¬ (b.length : Int) - 12 < (N : Int) from by omega)]
          refine z_draw [⟨[(0, none)], [], false, [0]⟩, ⟨[(5, none)], [], false, [0]⟩, ⟨[(29, some 1)], [1], false, [0]⟩, ⟨[(5, none)], [], false, [0]⟩, ⟨[(31, some 3)], [3], false, [0]⟩, ⟨[(28, some 0), (30, some 2), (32, some 4)], [0, 1, 2, 3, 4], false, [0]⟩, ⟨[(33, some 5)], [0, 1, 2, 3, 4, 5], true, []⟩, ⟨[(0, none)], [], false, [0, 1]⟩, ⟨[(5, none)], [], false, [0, 1]⟩, ⟨[(36, some 8)], [8], false, [0, 1]⟩, ⟨[(35, some 7), (37, some 9)], [7, 8, 9], false, [0, 1]⟩, ⟨[(38, some 10)], [0, 1, 2, 3, 4, 5, 6, 7, 8, 9, 10], true, []⟩, ⟨[(39, some 11)], [0, 1, 2, 3, 4, 5, 6, 7, 8, 9, 10, 11], false, [2]⟩, ⟨[(34, some 6), (40, some 12)], [0, 1, 2, 3, 4, 5, 6, 7, 8, 9, 10, 11, 12], false, [2]⟩] [6, 11] [(0, none), (2, none), (3, none), (4, none), (5, none), (8, none), (20, none), (22, none), (27, none), (41, some 13)] [(0, none, 6), (5, none, 6), (36, some 8, 6), (35, some 7, 6), (37, some 9, 6), (38, some 10, 6), (34, some 6, 11), (0, none, 11), (2, none, 6), (2, none, 11), (3, none, 6), (3, none, 11), (4, none, 6), (4, none, 11), (5, none, 11), (8, none, 6), (8, none, 11), (20, none, 6), (20, none, 11), (22, none, 6), (22, none, 11), (27, none, 6), (27, none, 11)] mixed (by kernel_rfl) (by kernel_rfl) (by kernel_rfl) ?_
          have i3 : 8 + N - 8 = N := by omega
          simp (maxSteps := 2000000) (disch := omega) only [go_sem, List.length_map, Int.reduceEq, Int.reduceNe, Nat.reduceBEq, Nat.reduceLT, Nat.reduceLeDiff, Nat.reduceAdd, Nat.reduceSub, Nat.reduceMul, Nat.reduceEqDiff, Int.reduceLT, Int.reduceLE, Int.reduceNeg, Int.reduceToNat, Int.reduceAdd, Int.reduceSub, ↓reduceIte, reduceCtorEq, i1, i2, i3]
          refine evCall_con [] [] (rSaid ((b.drop (8 + N)).take 4) (by simp; omega)) ?_ ?_ ?_ ?_ ?_; (focus kernel_rfl); (focus exact (.inl rfl)); (focus (simp [go_sem]; done)); (focus (simp [go_sem]; done)); rintro _ rfl; simp (maxSteps := 2000000) (disch := omega) only [go_sem, List.length_map, Int.reduceEq, Int.reduceNe, Nat.reduceBEq, Nat.reduceLT, Nat.reduceLeDiff, Nat.reduceAdd, Nat.reduceSub, Nat.reduceMul, Nat.reduceEqDiff, Int.reduceLT, Int.reduceLE, Int.reduceNeg, Int.reduceToNat, Int.reduceAdd, Int.reduceSub, ↓reduceIte, reduceCtorEq]
          simp (maxSteps := 2000000) (disch := omega) only [go_sem, List.length_map, Int.reduceEq, Int.reduceNe, Nat.reduceBEq, Nat.reduceLT, Nat.reduceLeDiff, Nat.reduceAdd, Nat.reduceSub, Nat.reduceMul, Nat.reduceEqDiff, Int.reduceLT, Int.reduceLE, Int.reduceNeg, Int.reduceToNat, Int.reduceAdd, Int.reduceSub, ↓reduceIte, reduceCtorEq, i1, i3]
          refine evCall_con [] [] (rSum ((b.drop 8).take N) (by simp; omega)) ?_ ?_ ?_ ?_ ?_; (focus kernel_rfl); (focus exact (.inl rfl)); (focus (simp [go_sem]; done)); (focus (simp [go_sem]; done)); rintro _ rfl; simp (maxSteps := 2000000) (disch := omega) only [go_sem, List.length_map, Int.reduceEq, Int.reduceNe, Nat.reduceBEq, Nat.reduceLT, Nat.reduceLeDiff, Nat.reduceAdd, Nat.reduceSub, Nat.reduceMul, Nat.reduceEqDiff, Int.reduceLT, Int.reduceLE, Int.reduceNeg, Int.reduceToNat, Int.reduceAdd, Int.reduceSub, ↓reduceIte, reduceCtorEq]
          by_cases c5 : numB ((b.drop (8 + N)).take 4) = (sumC ((b.drop 8).take N)).toNat
          · rw [if_neg (by simp [c5])] at h
            simp only [Prod.mk.injEq] at h
            obtain ⟨rfl, rfl, rfl⟩ := h
            have c5' : ((numB ((b.drop (8 + N)).take 4) : Nat) : Int) = (((sumC ((b.drop 8).take N)).toNat : Nat) : Int) := by rw [c5]
            simp (maxSteps := 2000000) (disch := omega) only [go_sem, List.length_map, Int.reduceEq, Int.reduceNe, Nat.reduceBEq, Nat.reduceLT, Nat.reduceLeDiff, Nat.reduceAdd, Nat.reduceSub, Nat.reduceMul, Nat.reduceEqDiff, Int.reduceLT, Int.reduceLE, Int.reduceNeg, Int.reduceToNat, Int.reduceAdd, Int.reduceSub, ↓reduceIte, reduceCtorEq, decide_eq_true c5', i1, i3]
            rw [show ((N + 12 : Nat) : Int) = (N : Int) + 12 from rfl]
            exact fin_ret (by rfl) (by simp [subMem, Dk.find])
          · rw [if_pos c5] at h
            simp only [Prod.mk.injEq] at h
            obtain ⟨rfl, rfl, rfl⟩ := h
            have c5' : ¬ ((numB ((b.drop (8 + N)).take 4) : Nat) : Int) = (((sumC ((b.drop 8).take N)).toNat : Nat) : Int) := by exact_mod_cast c5
            simp (maxSteps := 2000000) (disch := omega) only [go_sem, List.length_map, Int.reduceEq, Int.reduceNe, Nat.reduceBEq, Nat.reduceLT, Nat.reduceLeDiff, Nat.reduceAdd, Nat.reduceSub, Nat.reduceMul, Nat.reduceEqDiff, Int.reduceLT, Int.reduceLE, Int.reduceNeg, Int.reduceToNat, Int.reduceAdd, Int.reduceSub, ↓reduceIte, reduceCtorEq, decide_eq_false c5']
            exact Fin_weak (weak_put 2 (.imm false 1 []) fun E u h => den_nil_imm h) (fin_ret (by rfl) (by simp [subMem, Dk.find]))
    · rw [if_pos c1] at h
      simp only [Prod.mk.injEq] at h
      obtain ⟨rfl, rfl, rfl⟩ := h
      have c1' : ¬ ((numB ((b.drop 4).take 4) : Nat) : Int) = (((sumC (b.take 4)).toNat : Nat) : Int) := by exact_mod_cast c1
      simp (maxSteps := 2000000) (disch := omega) only [go_sem, List.length_map, Int.reduceEq, Int.reduceNe, Nat.reduceBEq, Nat.reduceLT, Nat.reduceLeDiff, Nat.reduceAdd, Nat.reduceSub, Nat.reduceMul, Nat.reduceEqDiff, Int.reduceLT, Int.reduceLE, Int.reduceNeg, Int.reduceToNat, Int.reduceAdd, Int.reduceSub, ↓reduceIte, reduceCtorEq, decide_eq_false c1']
      exact Fin_weak (weak_put 2 (.imm false 1 []) fun E u h => den_nil_imm h) (fin_ret (by rfl) (by simp [subMem, Dk.find]))
end Go.Proofs.Ytjmkgpkgagohoaa
