/-
  RefC: contracts of functions of the program, and what follows from them.
-/
import Derived.Test.YtjmkgpkgagohoaaTyCodec
import Derived.Test.YtjmkgpkgagohoaaRefB
set_option linter.all false
namespace Go.Proofs.Ytjmkgpkgagohoaa
open Go Go.Dk
set_option linter.unusedSimpArgs false
set_option linter.unusedVariables false
set_option maxRecDepth 10000
set_option maxHeartbeats 4000000

theorem rGetVar (b rs : List UInt8) (e : Int) (M : Nat) (m : Int) (hl : b.length < 1000000000000) (hs : rs <:+ b) (hM : M < 18446744073709551616) (hm : 0 ≤ m → (M : Int) = m)
    {n2 : Nat} {rs2 : List UInt8} {e2 : Int} (h : roomR m (rs, e) = (n2, rs2, e2)) :
    (Con.mk [.agg [.imm false 1 (rowsB (b)), .v (.int .i64 (((b).length - (rs).length : Nat) : Int)), .v (.int .i64 (e))], .v (.int .u64 M), .v (.bool (decide (m < 0)))] [] [] (.tup [.agg [.imm false 1 (rowsB (b)), .v (.int .i64 (((b).length - (rs2).length : Nat) : Int)), .v (.int .i64 (e2))], .v (.int .u64 n2)]) []).ok Try.prog 58 := by
  refine ⟨?_, by simp [Con.wf, ids, inA, inM, inB, inL_nil, inL_cons, inL_append, inL_cellsB, inL_dat]⟩
  have hle := hs.length_le
  obtain ⟨c, rs1, e1, h1⟩ : ∃ c rs1 e1, highR 1 (rs, e) = (c, rs1, e1) := ⟨_, _, _, rfl⟩
  have hs1 : rs1 <:+ b := (highR_suf h1).trans hs
  have hc : c < 256 := highR_lt h1
  by_cases c0 : e1 = 0
  · subst c0
    obtain ⟨he, l1, hl1, hr1, _⟩ := highR_ok h1
    dsimp only at he hr1
    subst he
    have hlen1 : rs.length = 1 + rs1.length := by rw [hr1]; simp [hl1]
    by_cases c1 : c < 253
    · have hv : (varB c).length = 1 := by simp [varB, c1]
      have hv' := varR_small h1 c1
      have e1 : (((b.length - rs1.length : Nat) : Int) - ((b.length - rs.length : Nat) : Int)) = 1 := by omega
      refine con_of_ev true [0, 1, 2, 3, 6, 7, 8, 9, 10, 11, 24, 26, 28, 37, 50, 58] 63 Try.func58 (code := _) rfl rfl Try.ntmps58 (by simp) [.cell 6 44, .tmp 7] (by rw [Try.results58]) ?_
      simp (maxSteps := 2000000) (disch := omega) only [go_sem, Int.reduceEq, Int.reduceNe, Nat.reduceBEq, Nat.reduceLT, Nat.reduceLeDiff, Nat.reduceAdd, Nat.reduceSub, Nat.reduceMul, Nat.reduceEqDiff, Int.reduceLT, Int.reduceLE, Int.reduceNeg, Int.reduceToNat, Int.reduceAdd, Int.reduceSub, ↓reduceIte, reduceCtorEq]
      refine awCall_con [] [] (rGet b rs 0 1 hl hs (by omega) h1) ?_ ?_ ?_ ?_ ?_; (focus kernel_rfl); (focus exact (.inl rfl)); (focus (simp [go_sem]; done)); (focus (simp [go_sem]; done)); rintro _ rfl; simp (maxSteps := 2000000) (disch := omega) only [go_sem, Int.reduceEq, Int.reduceNe, Nat.reduceBEq, Nat.reduceLT, Nat.reduceLeDiff, Nat.reduceAdd, Nat.reduceSub, Nat.reduceMul, Nat.reduceEqDiff, Int.reduceLT, Int.reduceLE, Int.reduceNeg, Int.reduceToNat, Int.reduceAdd, Int.reduceSub, ↓reduceIte, reduceCtorEq]
      simp (maxSteps := 2000000) (disch := omega) only [go_sem, Int.reduceEq, Int.reduceNe, Nat.reduceBEq, Nat.reduceLT, Nat.reduceLeDiff, Nat.reduceAdd, Nat.reduceSub, Nat.reduceMul, Nat.reduceEqDiff, Int.reduceLT, Int.reduceLE, Int.reduceNeg, Int.reduceToNat, Int.reduceAdd, Int.reduceSub, ↓reduceIte, reduceCtorEq, decide_eq_false (show ¬ (253 : Int) ≤ c from by omega)]
      refine z_draw [⟨[(10, none)], [], false, [0]⟩, ⟨[(42, some 0)], [0], true, []⟩, ⟨[(43, some 1)], [0, 1], false, [1]⟩, ⟨[(8, none)], [], false, [0, 1]⟩, ⟨[(45, some 3)], [3], false, [0, 1]⟩, ⟨[(3, none)], [], false, [0, 1]⟩, ⟨[(47, some 5)], [5], false, [0, 1]⟩, ⟨[(46, some 4), (48, some 6)], [3, 4, 5, 6], false, [0, 1]⟩, ⟨[(44, some 2), (49, some 7)], [0, 1, 2, 3, 4, 5, 6, 7], false, [1]⟩] [1] [(0, none), (1, none), (2, none), (3, none), (6, none), (7, none), (8, none), (9, none), (10, none), (11, none), (24, none), (26, none), (28, none), (37, none), (50, some 8), (58, none)] [(8, none, 1), (45, some 3, 1), (3, none, 1), (47, some 5, 1), (46, some 4, 1), (48, some 6, 1), (49, some 7, 1), (0, none, 1), (1, none, 1), (2, none, 1), (6, none, 1), (7, none, 1), (9, none, 1), (10, none, 1), (11, none, 1), (24, none, 1), (26, none, 1), (28, none, 1), (37, none, 1), (58, none, 1)] mixed (by kernel_rfl) (by kernel_rfl) (by kernel_rfl) ?_
      simp (maxSteps := 2000000) (disch := omega) only [go_sem, Int.reduceEq, Int.reduceNe, Nat.reduceBEq, Nat.reduceLT, Nat.reduceLeDiff, Nat.reduceAdd, Nat.reduceSub, Nat.reduceMul, Nat.reduceEqDiff, Int.reduceLT, Int.reduceLE, Int.reduceNeg, Int.reduceToNat, Int.reduceAdd, Int.reduceSub, ↓reduceIte, reduceCtorEq]
      refine evCall_con [(16, 100)] [] (rVar c (by omega)) ?_ ?_ ?_ ?_ ?_; (focus kernel_rfl); (focus exact (.inl rfl)); (focus (simp [go_sem]; done)); (focus (simp [go_sem]; done)); rintro _ rfl; simp (maxSteps := 2000000) (disch := omega) only [go_sem, Int.reduceEq, Int.reduceNe, Nat.reduceBEq, Nat.reduceLT, Nat.reduceLeDiff, Nat.reduceAdd, Nat.reduceSub, Nat.reduceMul, Nat.reduceEqDiff, Int.reduceLT, Int.reduceLE, Int.reduceNeg, Int.reduceToNat, Int.reduceAdd, Int.reduceSub, ↓reduceIte, reduceCtorEq]
      simp (maxSteps := 2000000) (disch := omega) only [go_sem, Int.reduceEq, Int.reduceNe, Nat.reduceBEq, Nat.reduceLT, Nat.reduceLeDiff, Nat.reduceAdd, Nat.reduceSub, Nat.reduceMul, Nat.reduceEqDiff, Int.reduceLT, Int.reduceLE, Int.reduceNeg, Int.reduceToNat, Int.reduceAdd, Int.reduceSub, ↓reduceIte, reduceCtorEq, hv, e1]
      rw [roomR_good hv'] at h
      by_cases g1 : m < 0
      · rw [if_pos (.inl g1)] at h
        simp only [Prod.mk.injEq] at h
        obtain ⟨rfl, rfl, rfl⟩ := h
        simp (maxSteps := 2000000) (disch := omega) only [go_sem, Int.reduceEq, Int.reduceNe, Nat.reduceBEq, Nat.reduceLT, Nat.reduceLeDiff, Nat.reduceAdd, Nat.reduceSub, Nat.reduceMul, Nat.reduceEqDiff, Int.reduceLT, Int.reduceLE, Int.reduceNeg, Int.reduceToNat, Int.reduceAdd, Int.reduceSub, ↓reduceIte, reduceCtorEq, decide_eq_true g1]
        exact fin_ret (by rfl) (by simp [subMem, Dk.find])
      · have hm' := hm (by omega)
        by_cases g2 : m < c
        · rw [if_pos (.inr g2)] at h
          simp only [Prod.mk.injEq] at h
          obtain ⟨rfl, rfl, rfl⟩ := h
          simp (maxSteps := 2000000) (disch := omega) only [go_sem, Int.reduceEq, Int.reduceNe, Nat.reduceBEq, Nat.reduceLT, Nat.reduceLeDiff, Nat.reduceAdd, Nat.reduceSub, Nat.reduceMul, Nat.reduceEqDiff, Int.reduceLT, Int.reduceLE, Int.reduceNeg, Int.reduceToNat, Int.reduceAdd, Int.reduceSub, ↓reduceIte, reduceCtorEq, decide_eq_false g1, decide_eq_true (show (M : Int) < c from by omega)]
          exact fin_ret (by rfl) (by simp [subMem, Dk.find])
        · rw [if_neg (by simp only [not_or]; exact ⟨g1, g2⟩)] at h
          simp only [Prod.mk.injEq] at h
          obtain ⟨rfl, rfl, rfl⟩ := h
          simp (maxSteps := 2000000) (disch := omega) only [go_sem, Int.reduceEq, Int.reduceNe, Nat.reduceBEq, Nat.reduceLT, Nat.reduceLeDiff, Nat.reduceAdd, Nat.reduceSub, Nat.reduceMul, Nat.reduceEqDiff, Int.reduceLT, Int.reduceLE, Int.reduceNeg, Int.reduceToNat, Int.reduceAdd, Int.reduceSub, ↓reduceIte, reduceCtorEq, decide_eq_false g1, decide_eq_false (show ¬ (M : Int) < c from by omega)]
          exact fin_ret (by rfl) (by simp [subMem, Dk.find])
    · have c4 : c = 253 ∨ c = 254 ∨ c = 255 := by omega
      rcases c4 with rfl | rfl | rfl
      · obtain ⟨n, rs3, e3, h2⟩ : ∃ n rs3 e3, highR 2 (rs1, 0) = (n, rs3, e3) := ⟨_, _, _, rfl⟩
        have hs3 : rs3 <:+ b := (highR_suf h2).trans hs1
        have hn : n < 65536 := highR_lt h2
        have hv' := varR_big h1 (.inl ⟨rfl, rfl, rfl⟩) h2
        by_cases c2 : e3 = 0
        · subst c2
          obtain ⟨_, l3, hl3, hr3, _⟩ := highR_ok h2
          dsimp only at hr3
          have hlen3 : rs1.length = 2 + rs3.length := by rw [hr3]; simp [hl3]
          have hle3 := hs3.length_le
          have e1 : (((b.length - rs3.length : Nat) : Int) - ((b.length - rs.length : Nat) : Int)) = 3 := by omega
          by_cases c3 : n < 253
          · have hv : (varB n).length < 3 := by
              simp only [varB]; split
              · simp
              · omega

            have hv2 : roomR m (rs, 0) = (0, rs, 11) := roomR_err (by decide) (fun most => by rw [hv' most, if_neg (by simp), if_pos c3]) m
            rw [hv2] at h
            simp only [Prod.mk.injEq] at h
            obtain ⟨rfl, rfl, rfl⟩ := h
            refine con_of_ev true [0, 1, 2, 3, 6, 7, 8, 9, 10, 11, 24, 26, 28, 37, 50, 58] 63 Try.func58 (code := _) rfl rfl Try.ntmps58 (by simp) [.cell 6 44, .tmp 7] (by rw [Try.results58]) ?_
            simp (maxSteps := 2000000) (disch := omega) only [go_sem, Int.reduceEq, Int.reduceNe, Nat.reduceBEq, Nat.reduceLT, Nat.reduceLeDiff, Nat.reduceAdd, Nat.reduceSub, Nat.reduceMul, Nat.reduceEqDiff, Int.reduceLT, Int.reduceLE, Int.reduceNeg, Int.reduceToNat, Int.reduceAdd, Int.reduceSub, ↓reduceIte, reduceCtorEq]
            refine awCall_con [] [] (rGet b rs 0 1 hl hs (by omega) h1) ?_ ?_ ?_ ?_ ?_; (focus kernel_rfl); (focus exact (.inl rfl)); (focus (simp [go_sem]; done)); (focus (simp [go_sem]; done)); rintro _ rfl; simp (maxSteps := 2000000) (disch := omega) only [go_sem, Int.reduceEq, Int.reduceNe, Nat.reduceBEq, Nat.reduceLT, Nat.reduceLeDiff, Nat.reduceAdd, Nat.reduceSub, Nat.reduceMul, Nat.reduceEqDiff, Int.reduceLT, Int.reduceLE, Int.reduceNeg, Int.reduceToNat, Int.reduceAdd, Int.reduceSub, ↓reduceIte, reduceCtorEq]
            refine awCall_con [] [] (rGet b rs1 0 2 hl hs1 (by omega) h2) ?_ ?_ ?_ ?_ ?_; (focus kernel_rfl); (focus exact (.inl rfl)); (focus (simp [go_sem]; done)); (focus (simp [go_sem]; done)); rintro _ rfl; simp (maxSteps := 2000000) (disch := omega) only [go_sem, Int.reduceEq, Int.reduceNe, Nat.reduceBEq, Nat.reduceLT, Nat.reduceLeDiff, Nat.reduceAdd, Nat.reduceSub, Nat.reduceMul, Nat.reduceEqDiff, Int.reduceLT, Int.reduceLE, Int.reduceNeg, Int.reduceToNat, Int.reduceAdd, Int.reduceSub, ↓reduceIte, reduceCtorEq]
            refine z_draw [⟨[(10, none)], [], false, [0]⟩, ⟨[(42, some 0)], [0], true, []⟩, ⟨[(43, some 1)], [0, 1], false, [1]⟩, ⟨[(8, none)], [], false, [0, 1]⟩, ⟨[(45, some 3)], [3], false, [0, 1]⟩, ⟨[(3, none)], [], false, [0, 1]⟩, ⟨[(47, some 5)], [5], false, [0, 1]⟩, ⟨[(46, some 4), (48, some 6)], [3, 4, 5, 6], false, [0, 1]⟩, ⟨[(44, some 2), (49, some 7)], [0, 1, 2, 3, 4, 5, 6, 7], false, [1]⟩] [1] [(0, none), (1, none), (2, none), (3, none), (6, none), (7, none), (8, none), (9, none), (10, none), (11, none), (24, none), (26, none), (28, none), (37, none), (50, some 8), (58, none)] [(8, none, 1), (45, some 3, 1), (3, none, 1), (47, some 5, 1), (46, some 4, 1), (48, some 6, 1), (49, some 7, 1), (0, none, 1), (1, none, 1), (2, none, 1), (6, none, 1), (7, none, 1), (9, none, 1), (10, none, 1), (11, none, 1), (24, none, 1), (26, none, 1), (28, none, 1), (37, none, 1), (58, none, 1)] mixed (by kernel_rfl) (by kernel_rfl) (by kernel_rfl) ?_
            simp (maxSteps := 2000000) (disch := omega) only [go_sem, Int.reduceEq, Int.reduceNe, Nat.reduceBEq, Nat.reduceLT, Nat.reduceLeDiff, Nat.reduceAdd, Nat.reduceSub, Nat.reduceMul, Nat.reduceEqDiff, Int.reduceLT, Int.reduceLE, Int.reduceNeg, Int.reduceToNat, Int.reduceAdd, Int.reduceSub, ↓reduceIte, reduceCtorEq]
            refine evCall_con [(16, 100)] [] (rVar n (by omega)) ?_ ?_ ?_ ?_ ?_; (focus kernel_rfl); (focus exact (.inl rfl)); (focus (simp [go_sem]; done)); (focus (simp [go_sem]; done)); rintro _ rfl; simp (maxSteps := 2000000) (disch := omega) only [go_sem, Int.reduceEq, Int.reduceNe, Nat.reduceBEq, Nat.reduceLT, Nat.reduceLeDiff, Nat.reduceAdd, Nat.reduceSub, Nat.reduceMul, Nat.reduceEqDiff, Int.reduceLT, Int.reduceLE, Int.reduceNeg, Int.reduceToNat, Int.reduceAdd, Int.reduceSub, ↓reduceIte, reduceCtorEq]
            simp (maxSteps := 2000000) (disch := omega) only [go_sem, Int.reduceEq, Int.reduceNe, Nat.reduceBEq, Nat.reduceLT, Nat.reduceLeDiff, Nat.reduceAdd, Nat.reduceSub, Nat.reduceMul, Nat.reduceEqDiff, Int.reduceLT, Int.reduceLE, Int.reduceNeg, Int.reduceToNat, Int.reduceAdd, Int.reduceSub, ↓reduceIte, reduceCtorEq, e1, decide_eq_false (show ¬ (((varB n).length : Nat) : Int) = 3 from by omega)]
            exact fin_ret (by rfl) (by simp [subMem, Dk.find])
          · have hv : (varB n).length = 3 := by
              simp only [varB]
              rw [if_neg (by omega), if_pos (by omega)]
              simp [highB_length]
            replace hv' : ∀ most, varR most (rs, 0) = if most < n then (0, rs, 12) else (n, rs3, 0) := fun most => by rw [hv' most, if_neg (by simp), if_neg c3]
            refine con_of_ev true [0, 1, 2, 3, 6, 7, 8, 9, 10, 11, 24, 26, 28, 37, 50, 58] 63 Try.func58 (code := _) rfl rfl Try.ntmps58 (by simp) [.cell 6 44, .tmp 7] (by rw [Try.results58]) ?_
            simp (maxSteps := 2000000) (disch := omega) only [go_sem, Int.reduceEq, Int.reduceNe, Nat.reduceBEq, Nat.reduceLT, Nat.reduceLeDiff, Nat.reduceAdd, Nat.reduceSub, Nat.reduceMul, Nat.reduceEqDiff, Int.reduceLT, Int.reduceLE, Int.reduceNeg, Int.reduceToNat, Int.reduceAdd, Int.reduceSub, ↓reduceIte, reduceCtorEq]
            refine awCall_con [] [] (rGet b rs 0 1 hl hs (by omega) h1) ?_ ?_ ?_ ?_ ?_; (focus kernel_rfl); (focus exact (.inl rfl)); (focus (simp [go_sem]; done)); (focus (simp [go_sem]; done)); rintro _ rfl; simp (maxSteps := 2000000) (disch := omega) only [go_sem, Int.reduceEq, Int.reduceNe, Nat.reduceBEq, Nat.reduceLT, Nat.reduceLeDiff, Nat.reduceAdd, Nat.reduceSub, Nat.reduceMul, Nat.reduceEqDiff, Int.reduceLT, Int.reduceLE, Int.reduceNeg, Int.reduceToNat, Int.reduceAdd, Int.reduceSub, ↓reduceIte, reduceCtorEq]
            refine awCall_con [] [] (rGet b rs1 0 2 hl hs1 (by omega) h2) ?_ ?_ ?_ ?_ ?_; (focus kernel_rfl); (focus exact (.inl rfl)); (focus (simp [go_sem]; done)); (focus (simp [go_sem]; done)); rintro _ rfl; simp (maxSteps := 2000000) (disch := omega) only [go_sem, Int.reduceEq, Int.reduceNe, Nat.reduceBEq, Nat.reduceLT, Nat.reduceLeDiff, Nat.reduceAdd, Nat.reduceSub, Nat.reduceMul, Nat.reduceEqDiff, Int.reduceLT, Int.reduceLE, Int.reduceNeg, Int.reduceToNat, Int.reduceAdd, Int.reduceSub, ↓reduceIte, reduceCtorEq]
            refine z_draw [⟨[(10, none)], [], false, [0]⟩, ⟨[(42, some 0)], [0], true, []⟩, ⟨[(43, some 1)], [0, 1], false, [1]⟩, ⟨[(8, none)], [], false, [0, 1]⟩, ⟨[(45, some 3)], [3], false, [0, 1]⟩, ⟨[(3, none)], [], false, [0, 1]⟩, ⟨[(47, some 5)], [5], false, [0, 1]⟩, ⟨[(46, some 4), (48, some 6)], [3, 4, 5, 6], false, [0, 1]⟩, ⟨[(44, some 2), (49, some 7)], [0, 1, 2, 3, 4, 5, 6, 7], false, [1]⟩] [1] [(0, none), (1, none), (2, none), (3, none), (6, none), (7, none), (8, none), (9, none), (10, none), (11, none), (24, none), (26, none), (28, none), (37, none), (50, some 8), (58, none)] [(8, none, 1), (45, some 3, 1), (3, none, 1), (47, some 5, 1), (46, some 4, 1), (48, some 6, 1), (49, some 7, 1), (0, none, 1), (1, none, 1), (2, none, 1), (6, none, 1), (7, none, 1), (9, none, 1), (10, none, 1), (11, none, 1), (24, none, 1), (26, none, 1), (28, none, 1), (37, none, 1), (58, none, 1)] mixed (by kernel_rfl) (by kernel_rfl) (by kernel_rfl) ?_
            simp (maxSteps := 2000000) (disch := omega) only [go_sem, Int.reduceEq, Int.reduceNe, Nat.reduceBEq, Nat.reduceLT, Nat.reduceLeDiff, Nat.reduceAdd, Nat.reduceSub, Nat.reduceMul, Nat.reduceEqDiff, Int.reduceLT, Int.reduceLE, Int.reduceNeg, Int.reduceToNat, Int.reduceAdd, Int.reduceSub, ↓reduceIte, reduceCtorEq]
            refine evCall_con [(16, 100)] [] (rVar n (by omega)) ?_ ?_ ?_ ?_ ?_; (focus kernel_rfl); (focus exact (.inl rfl)); (focus (simp [go_sem]; done)); (focus (simp [go_sem]; done)); rintro _ rfl; simp (maxSteps := 2000000) (disch := omega) only [go_sem, Int.reduceEq, Int.reduceNe, Nat.reduceBEq, Nat.reduceLT, Nat.reduceLeDiff, Nat.reduceAdd, Nat.reduceSub, Nat.reduceMul, Nat.reduceEqDiff, Int.reduceLT, Int.reduceLE, Int.reduceNeg, Int.reduceToNat, Int.reduceAdd, Int.reduceSub, ↓reduceIte, reduceCtorEq]
            simp (maxSteps := 2000000) (disch := omega) only [go_sem, Int.reduceEq, Int.reduceNe, Nat.reduceBEq, Nat.reduceLT, Nat.reduceLeDiff, Nat.reduceAdd, Nat.reduceSub, Nat.reduceMul, Nat.reduceEqDiff, Int.reduceLT, Int.reduceLE, Int.reduceNeg, Int.reduceToNat, Int.reduceAdd, Int.reduceSub, ↓reduceIte, reduceCtorEq, hv, e1]
            rw [roomR_good hv'] at h
            by_cases g1 : m < 0
            · rw [if_pos (.inl g1)] at h
              simp only [Prod.mk.injEq] at h
              obtain ⟨rfl, rfl, rfl⟩ := h
              simp (maxSteps := 2000000) (disch := omega) only [go_sem, Int.reduceEq, Int.reduceNe, Nat.reduceBEq, Nat.reduceLT, Nat.reduceLeDiff, Nat.reduceAdd, Nat.reduceSub, Nat.reduceMul, Nat.reduceEqDiff, Int.reduceLT, Int.reduceLE, Int.reduceNeg, Int.reduceToNat, Int.reduceAdd, Int.reduceSub, ↓reduceIte, reduceCtorEq, decide_eq_true g1]
              exact fin_ret (by rfl) (by simp [subMem, Dk.find])
            · have hm' := hm (by omega)
              by_cases g2 : m < n
              · rw [if_pos (.inr g2)] at h
                simp only [Prod.mk.injEq] at h
                obtain ⟨rfl, rfl, rfl⟩ := h
                simp (maxSteps := 2000000) (disch := omega) only [go_sem, Int.reduceEq, Int.reduceNe, Nat.reduceBEq, Nat.reduceLT, Nat.reduceLeDiff, Nat.reduceAdd, Nat.reduceSub, Nat.reduceMul, Nat.reduceEqDiff, Int.reduceLT, Int.reduceLE, Int.reduceNeg, Int.reduceToNat, Int.reduceAdd, Int.reduceSub, ↓reduceIte, reduceCtorEq, decide_eq_false g1, decide_eq_true (show (M : Int) < n from by omega)]
                exact fin_ret (by rfl) (by simp [subMem, Dk.find])
              · rw [if_neg (by simp only [not_or]; exact ⟨g1, g2⟩)] at h
                simp only [Prod.mk.injEq] at h
                obtain ⟨rfl, rfl, rfl⟩ := h
                simp (maxSteps := 2000000) (disch := omega) only [go_sem, Int.reduceEq, Int.reduceNe, Nat.reduceBEq, Nat.reduceLT, Nat.reduceLeDiff, Nat.reduceAdd, Nat.reduceSub, Nat.reduceMul, Nat.reduceEqDiff, Int.reduceLT, Int.reduceLE, Int.reduceNeg, Int.reduceToNat, Int.reduceAdd, Int.reduceSub, ↓reduceIte, reduceCtorEq, decide_eq_false g1, decide_eq_false (show ¬ (M : Int) < n from by omega)]
                exact fin_ret (by rfl) (by simp [subMem, Dk.find])
        · have hv2 : roomR m (rs, 0) = (0, rs, e3) := roomR_err c2 (fun most => by rw [hv' most, if_pos c2]) m
          rw [hv2] at h
          simp only [Prod.mk.injEq] at h
          obtain ⟨rfl, rfl, rfl⟩ := h
          refine con_of_ev true [0, 1, 2, 3, 6, 7, 8, 9, 10, 11, 24, 26, 28, 37, 50, 58] 63 Try.func58 (code := _) rfl rfl Try.ntmps58 (by simp) [.cell 6 44, .tmp 7] (by rw [Try.results58]) ?_
          simp (maxSteps := 2000000) (disch := omega) only [go_sem, Int.reduceEq, Int.reduceNe, Nat.reduceBEq, Nat.reduceLT, Nat.reduceLeDiff, Nat.reduceAdd, Nat.reduceSub, Nat.reduceMul, Nat.reduceEqDiff, Int.reduceLT, Int.reduceLE, Int.reduceNeg, Int.reduceToNat, Int.reduceAdd, Int.reduceSub, ↓reduceIte, reduceCtorEq]
          refine awCall_con [] [] (rGet b rs 0 1 hl hs (by omega) h1) ?_ ?_ ?_ ?_ ?_; (focus kernel_rfl); (focus exact (.inl rfl)); (focus (simp [go_sem]; done)); (focus (simp [go_sem]; done)); rintro _ rfl; simp (maxSteps := 2000000) (disch := omega) only [go_sem, Int.reduceEq, Int.reduceNe, Nat.reduceBEq, Nat.reduceLT, Nat.reduceLeDiff, Nat.reduceAdd, Nat.reduceSub, Nat.reduceMul, Nat.reduceEqDiff, Int.reduceLT, Int.reduceLE, Int.reduceNeg, Int.reduceToNat, Int.reduceAdd, Int.reduceSub, ↓reduceIte, reduceCtorEq]
          refine awCall_con [] [] (rGet b rs1 0 2 hl hs1 (by omega) h2) ?_ ?_ ?_ ?_ ?_; (focus kernel_rfl); (focus exact (.inl rfl)); (focus (simp [go_sem]; done)); (focus (simp [go_sem]; done)); rintro _ rfl; simp (maxSteps := 2000000) (disch := omega) only [go_sem, Int.reduceEq, Int.reduceNe, Nat.reduceBEq, Nat.reduceLT, Nat.reduceLeDiff, Nat.reduceAdd, Nat.reduceSub, Nat.reduceMul, Nat.reduceEqDiff, Int.reduceLT, Int.reduceLE, Int.reduceNeg, Int.reduceToNat, Int.reduceAdd, Int.reduceSub, ↓reduceIte, reduceCtorEq]
          simp (maxSteps := 2000000) (disch := omega) only [go_sem, Int.reduceEq, Int.reduceNe, Nat.reduceBEq, Nat.reduceLT, Nat.reduceLeDiff, Nat.reduceAdd, Nat.reduceSub, Nat.reduceMul, Nat.reduceEqDiff, Int.reduceLT, Int.reduceLE, Int.reduceNeg, Int.reduceToNat, Int.reduceAdd, Int.reduceSub, ↓reduceIte, reduceCtorEq, c2, decide_eq_false c2]
          exact fin_ret (by rfl) (by simp [subMem, Dk.find])
      · obtain ⟨n, rs3, e3, h2⟩ : ∃ n rs3 e3, highR 4 (rs1, 0) = (n, rs3, e3) := ⟨_, _, _, rfl⟩
        have hs3 : rs3 <:+ b := (highR_suf h2).trans hs1
        have hn : n < 4294967296 := highR_lt h2
        have hv' := varR_big h1 (.inr (.inl ⟨rfl, rfl, rfl⟩)) h2
        by_cases c2 : e3 = 0
        · subst c2
          obtain ⟨_, l3, hl3, hr3, _⟩ := highR_ok h2
          dsimp only at hr3
          have hlen3 : rs1.length = 4 + rs3.length := by rw [hr3]; simp [hl3]
          have hle3 := hs3.length_le
          have e1 : (((b.length - rs3.length : Nat) : Int) - ((b.length - rs.length : Nat) : Int)) = 5 := by omega
          by_cases c3 : n < 65536
          · have hv : (varB n).length < 5 := by
              simp only [varB]; split
              · simp
              · split
                · simp [highB_length]
                · omega

            have hv2 : roomR m (rs, 0) = (0, rs, 11) := roomR_err (by decide) (fun most => by rw [hv' most, if_neg (by simp), if_pos c3]) m
            rw [hv2] at h
            simp only [Prod.mk.injEq] at h
            obtain ⟨rfl, rfl, rfl⟩ := h
            refine con_of_ev true [0, 1, 2, 3, 6, 7, 8, 9, 10, 11, 24, 26, 28, 37, 50, 58] 63 Try.func58 (code := _) rfl rfl Try.ntmps58 (by simp) [.cell 6 44, .tmp 7] (by rw [Try.results58]) ?_
            simp (maxSteps := 2000000) (disch := omega) only [go_sem, Int.reduceEq, Int.reduceNe, Nat.reduceBEq, Nat.reduceLT, Nat.reduceLeDiff, Nat.reduceAdd, Nat.reduceSub, Nat.reduceMul, Nat.reduceEqDiff, Int.reduceLT, Int.reduceLE, Int.reduceNeg, Int.reduceToNat, Int.reduceAdd, Int.reduceSub, ↓reduceIte, reduceCtorEq]
            refine awCall_con [] [] (rGet b rs 0 1 hl hs (by omega) h1) ?_ ?_ ?_ ?_ ?_; (focus kernel_rfl); (focus exact (.inl rfl)); (focus (simp [go_sem]; done)); (focus (simp [go_sem]; done)); rintro _ rfl; simp (maxSteps := 2000000) (disch := omega) only [go_sem, Int.reduceEq, Int.reduceNe, Nat.reduceBEq, Nat.reduceLT, Nat.reduceLeDiff, Nat.reduceAdd, Nat.reduceSub, Nat.reduceMul, Nat.reduceEqDiff, Int.reduceLT, Int.reduceLE, Int.reduceNeg, Int.reduceToNat, Int.reduceAdd, Int.reduceSub, ↓reduceIte, reduceCtorEq]
            refine awCall_con [] [] (rGet b rs1 0 4 hl hs1 (by omega) h2) ?_ ?_ ?_ ?_ ?_; (focus kernel_rfl); (focus exact (.inl rfl)); (focus (simp [go_sem]; done)); (focus (simp [go_sem]; done)); rintro _ rfl; simp (maxSteps := 2000000) (disch := omega) only [go_sem, Int.reduceEq, Int.reduceNe, Nat.reduceBEq, Nat.reduceLT, Nat.reduceLeDiff, Nat.reduceAdd, Nat.reduceSub, Nat.reduceMul, Nat.reduceEqDiff, Int.reduceLT, Int.reduceLE, Int.reduceNeg, Int.reduceToNat, Int.reduceAdd, Int.reduceSub, ↓reduceIte, reduceCtorEq]
            refine z_draw [⟨[(10, none)], [], false, [0]⟩, ⟨[(42, some 0)], [0], true, []⟩, ⟨[(43, some 1)], [0, 1], false, [1]⟩, ⟨[(8, none)], [], false, [0, 1]⟩, ⟨[(45, some 3)], [3], false, [0, 1]⟩, ⟨[(3, none)], [], false, [0, 1]⟩, ⟨[(47, some 5)], [5], false, [0, 1]⟩, ⟨[(46, some 4), (48, some 6)], [3, 4, 5, 6], false, [0, 1]⟩, ⟨[(44, some 2), (49, some 7)], [0, 1, 2, 3, 4, 5, 6, 7], false, [1]⟩] [1] [(0, none), (1, none), (2, none), (3, none), (6, none), (7, none), (8, none), (9, none), (10, none), (11, none), (24, none), (26, none), (28, none), (37, none), (50, some 8), (58, none)] [(8, none, 1), (45, some 3, 1), (3, none, 1), (47, some 5, 1), (46, some 4, 1), (48, some 6, 1), (49, some 7, 1), (0, none, 1), (1, none, 1), (2, none, 1), (6, none, 1), (7, none, 1), (9, none, 1), (10, none, 1), (11, none, 1), (24, none, 1), (26, none, 1), (28, none, 1), (37, none, 1), (58, none, 1)] mixed (by kernel_rfl) (by kernel_rfl) (by kernel_rfl) ?_
            simp (maxSteps := 2000000) (disch := omega) only [go_sem, Int.reduceEq, Int.reduceNe, Nat.reduceBEq, Nat.reduceLT, Nat.reduceLeDiff, Nat.reduceAdd, Nat.reduceSub, Nat.reduceMul, Nat.reduceEqDiff, Int.reduceLT, Int.reduceLE, Int.reduceNeg, Int.reduceToNat, Int.reduceAdd, Int.reduceSub, ↓reduceIte, reduceCtorEq]
            refine evCall_con [(16, 100)] [] (rVar n (by omega)) ?_ ?_ ?_ ?_ ?_; (focus kernel_rfl); (focus exact (.inl rfl)); (focus (simp [go_sem]; done)); (focus (simp [go_sem]; done)); rintro _ rfl; simp (maxSteps := 2000000) (disch := omega) only [go_sem, Int.reduceEq, Int.reduceNe, Nat.reduceBEq, Nat.reduceLT, Nat.reduceLeDiff, Nat.reduceAdd, Nat.reduceSub, Nat.reduceMul, Nat.reduceEqDiff, Int.reduceLT, Int.reduceLE, Int.reduceNeg, Int.reduceToNat, Int.reduceAdd, Int.reduceSub, ↓reduceIte, reduceCtorEq]
            simp (maxSteps := 2000000) (disch := omega) only [go_sem, Int.reduceEq, Int.reduceNe, Nat.reduceBEq, Nat.reduceLT, Nat.reduceLeDiff, Nat.reduceAdd, Nat.reduceSub, Nat.reduceMul, Nat.reduceEqDiff, Int.reduceLT, Int.reduceLE, Int.reduceNeg, Int.reduceToNat, Int.reduceAdd, Int.reduceSub, ↓reduceIte, reduceCtorEq, e1, decide_eq_false (show ¬ (((varB n).length : Nat) : Int) = 5 from by omega)]
            exact fin_ret (by rfl) (by simp [subMem, Dk.find])
          · have hv : (varB n).length = 5 := by
              simp only [varB]
              rw [if_neg (by omega), if_neg (by omega), if_pos (by omega)]
              simp [highB_length]
            replace hv' : ∀ most, varR most (rs, 0) = if most < n then (0, rs, 12) else (n, rs3, 0) := fun most => by rw [hv' most, if_neg (by simp), if_neg c3]
            refine con_of_ev true [0, 1, 2, 3, 6, 7, 8, 9, 10, 11, 24, 26, 28, 37, 50, 58] 63 Try.func58 (code := _) rfl rfl Try.ntmps58 (by simp) [.cell 6 44, .tmp 7] (by rw [Try.results58]) ?_
            simp (maxSteps := 2000000) (disch := omega) only [go_sem, Int.reduceEq, Int.reduceNe, Nat.reduceBEq, Nat.reduceLT, Nat.reduceLeDiff, Nat.reduceAdd, Nat.reduceSub, Nat.reduceMul, Nat.reduceEqDiff, Int.reduceLT, Int.reduceLE, Int.reduceNeg, Int.reduceToNat, Int.reduceAdd, Int.reduceSub, ↓reduceIte, reduceCtorEq]
            refine awCall_con [] [] (rGet b rs 0 1 hl hs (by omega) h1) ?_ ?_ ?_ ?_ ?_; (focus kernel_rfl); (focus exact (.inl rfl)); (focus (simp [go_sem]; done)); (focus (simp [go_sem]; done)); rintro _ rfl; simp (maxSteps := 2000000) (disch := omega) only [go_sem, Int.reduceEq, Int.reduceNe, Nat.reduceBEq, Nat.reduceLT, Nat.reduceLeDiff, Nat.reduceAdd, Nat.reduceSub, Nat.reduceMul, Nat.reduceEqDiff, Int.reduceLT, Int.reduceLE, Int.reduceNeg, Int.reduceToNat, Int.reduceAdd, Int.reduceSub, ↓reduceIte, reduceCtorEq]
            refine awCall_con [] [] (rGet b rs1 0 4 hl hs1 (by omega) h2) ?_ ?_ ?_ ?_ ?_; (focus kernel_rfl); (focus exact (.inl rfl)); (focus (simp [go_sem]; done)); (focus (simp [go_sem]; done)); rintro _ rfl; simp (maxSteps := 2000000) (disch := omega) only [go_sem, Int.reduceEq, Int.reduceNe, Nat.reduceBEq, Nat.reduceLT, Nat.reduceLeDiff, Nat.reduceAdd, Nat.reduceSub, Nat.reduceMul, Nat.reduceEqDiff, Int.reduceLT, Int.reduceLE, Int.reduceNeg, Int.reduceToNat, Int.reduceAdd, Int.reduceSub, ↓reduceIte, reduceCtorEq]
            refine z_draw [⟨[(10, none)], [], false, [0]⟩, ⟨[(42, some 0)], [0], true, []⟩, ⟨[(43, some 1)], [0, 1], false, [1]⟩, ⟨[(8, none)], [], false, [0, 1]⟩, ⟨[(45, some 3)], [3], false, [0, 1]⟩, ⟨[(3, none)], [], false, [0, 1]⟩, ⟨[(47, some 5)], [5], false, [0, 1]⟩, ⟨[(46, some 4), (48, some 6)], [3, 4, 5, 6], false, [0, 1]⟩, ⟨[(44, some 2), (49, some 7)], [0, 1, 2, 3, 4, 5, 6, 7], false, [1]⟩] [1] [(0, none), (1, none), (2, none), (3, none), (6, none), (7, none), (8, none), (9, none), (10, none), (11, none), (24, none), (26, none), (28, none), (37, none), (50, some 8), (58, none)] [(8, none, 1), (45, some 3, 1), (3, none, 1), (47, some 5, 1), (46, some 4, 1), (48, some 6, 1), (49, some 7, 1), (0, none, 1), (1, none, 1), (2, none, 1), (6, none, 1), (7, none, 1), (9, none, 1), (10, none, 1), (11, none, 1), (24, none, 1), (26, none, 1), (28, none, 1), (37, none, 1), (58, none, 1)] mixed (by kernel_rfl) (by kernel_rfl) (by kernel_rfl) ?_
            simp (maxSteps := 2000000) (disch := omega) only [go_sem, Int.reduceEq, Int.reduceNe, Nat.reduceBEq, Nat.reduceLT, Nat.reduceLeDiff, Nat.reduceAdd, Nat.reduceSub, Nat.reduceMul, Nat.reduceEqDiff, Int.reduceLT, Int.reduceLE, Int.reduceNeg, Int.reduceToNat, Int.reduceAdd, Int.reduceSub, ↓reduceIte, reduceCtorEq]
            refine evCall_con [(16, 100)] [] (rVar n (by omega)) ?_ ?_ ?_ ?_ ?_; (focus kernel_rfl); (focus exact (.inl rfl)); (focus (simp [go_sem]; done)); (focus (simp [go_sem]; done)); rintro _ rfl; simp (maxSteps := 2000000) (disch := omega) only [go_sem, Int.reduceEq, Int.reduceNe, Nat.reduceBEq, Nat.reduceLT, Nat.reduceLeDiff, Nat.reduceAdd, Nat.reduceSub, Nat.reduceMul, Nat.reduceEqDiff, Int.reduceLT, Int.reduceLE, Int.reduceNeg, Int.reduceToNat, Int.reduceAdd, Int.reduceSub, ↓reduceIte, reduceCtorEq]
            simp (maxSteps := 2000000) (disch := omega) only [go_sem, Int.reduceEq, Int.reduceNe, Nat.reduceBEq, Nat.reduceLT, Nat.reduceLeDiff, Nat.reduceAdd, Nat.reduceSub, Nat.reduceMul, Nat.reduceEqDiff, Int.reduceLT, Int.reduceLE, Int.reduceNeg, Int.reduceToNat, Int.reduceAdd, Int.reduceSub, ↓reduceIte, reduceCtorEq, hv, e1]
            rw [roomR_good hv'] at h
            by_cases g1 : m < 0
            · rw [if_pos (.inl g1)] at h
              simp only [Prod.mk.injEq] at h
              obtain ⟨rfl, rfl, rfl⟩ := h
              simp (maxSteps := 2000000) (disch := omega) only [go_sem, Int.reduceEq, Int.reduceNe, Nat.reduceBEq, Nat.reduceLT, Nat.reduceLeDiff, Nat.reduceAdd, Nat.reduceSub, Nat.reduceMul, Nat.reduceEqDiff, Int.reduceLT, Int.reduceLE, Int.reduceNeg, Int.reduceToNat, Int.reduceAdd, Int.reduceSub, ↓reduceIte, reduceCtorEq, decide_eq_true g1]
              exact fin_ret (by rfl) (by simp [subMem, Dk.find])
            · have hm' := hm (by omega)
              by_cases g2 : m < n
              · rw [if_pos (.inr g2)] at h
                simp only [Prod.mk.injEq] at h
                obtain ⟨rfl, rfl, rfl⟩ := h
                simp (maxSteps := 2000000) (disch := omega) only [go_sem, Int.reduceEq, Int.reduceNe, Nat.reduceBEq, Nat.reduceLT, Nat.reduceLeDiff, Nat.reduceAdd, Nat.reduceSub, Nat.reduceMul, Nat.reduceEqDiff, Int.reduceLT, Int.reduceLE, Int.reduceNeg, Int.reduceToNat, Int.reduceAdd, Int.reduceSub, ↓reduceIte, reduceCtorEq, decide_eq_false g1, decide_eq_true (show (M : Int) < n from by omega)]
                exact fin_ret (by rfl) (by simp [subMem, Dk.find])
              · rw [if_neg (by simp only [not_or]; exact ⟨g1, g2⟩)] at h
                simp only [Prod.mk.injEq] at h
                obtain ⟨rfl, rfl, rfl⟩ := h
                simp (maxSteps := 2000000) (disch := omega) only [go_sem, Int.reduceEq, Int.reduceNe, Nat.reduceBEq, Nat.reduceLT, Nat.reduceLeDiff, Nat.reduceAdd, Nat.reduceSub, Nat.reduceMul, Nat.reduceEqDiff, Int.reduceLT, Int.reduceLE, Int.reduceNeg, Int.reduceToNat, Int.reduceAdd, Int.reduceSub, ↓reduceIte, reduceCtorEq, decide_eq_false g1, decide_eq_false (show ¬ (M : Int) < n from by omega)]
                exact fin_ret (by rfl) (by simp [subMem, Dk.find])
        · have hv2 : roomR m (rs, 0) = (0, rs, e3) := roomR_err c2 (fun most => by rw [hv' most, if_pos c2]) m
          rw [hv2] at h
          simp only [Prod.mk.injEq] at h
          obtain ⟨rfl, rfl, rfl⟩ := h
          refine con_of_ev true [0, 1, 2, 3, 6, 7, 8, 9, 10, 11, 24, 26, 28, 37, 50, 58] 63 Try.func58 (code := _) rfl rfl Try.ntmps58 (by simp) [.cell 6 44, .tmp 7] (by rw [Try.results58]) ?_
          simp (maxSteps := 2000000) (disch := omega) only [go_sem, Int.reduceEq, Int.reduceNe, Nat.reduceBEq, Nat.reduceLT, Nat.reduceLeDiff, Nat.reduceAdd, Nat.reduceSub, Nat.reduceMul, Nat.reduceEqDiff, Int.reduceLT, Int.reduceLE, Int.reduceNeg, Int.reduceToNat, Int.reduceAdd, Int.reduceSub, ↓reduceIte, reduceCtorEq]
          refine awCall_con [] [] (rGet b rs 0 1 hl hs (by omega) h1) ?_ ?_ ?_ ?_ ?_; (focus kernel_rfl); (focus exact (.inl rfl)); (focus (simp [go_sem]; done)); (focus (simp [go_sem]; done)); rintro _ rfl; simp (maxSteps := 2000000) (disch := omega) only [go_sem, Int.reduceEq, Int.reduceNe, Nat.reduceBEq, Nat.reduceLT, Nat.reduceLeDiff, Nat.reduceAdd, Nat.reduceSub, Nat.reduceMul, Nat.reduceEqDiff, Int.reduceLT, Int.reduceLE, Int.reduceNeg, Int.reduceToNat, Int.reduceAdd, Int.reduceSub, ↓reduceIte, reduceCtorEq]
          refine awCall_con [] [] (rGet b rs1 0 4 hl hs1 (by omega) h2) ?_ ?_ ?_ ?_ ?_; (focus kernel_rfl); (focus exact (.inl rfl)); (focus (simp [go_sem]; done)); (focus (simp [go_sem]; done)); rintro _ rfl; simp (maxSteps := 2000000) (disch := omega) only [go_sem, Int.reduceEq, Int.reduceNe, Nat.reduceBEq, Nat.reduceLT, Nat.reduceLeDiff, Nat.reduceAdd, Nat.reduceSub, Nat.reduceMul, Nat.reduceEqDiff, Int.reduceLT, Int.reduceLE, Int.reduceNeg, Int.reduceToNat, Int.reduceAdd, Int.reduceSub, ↓reduceIte, reduceCtorEq]
          simp (maxSteps := 2000000) (disch := omega) only [go_sem, Int.reduceEq, Int.reduceNe, Nat.reduceBEq, Nat.reduceLT, Nat.reduceLeDiff, Nat.reduceAdd, Nat.reduceSub, Nat.reduceMul, Nat.reduceEqDiff, Int.reduceLT, Int.reduceLE, Int.reduceNeg, Int.reduceToNat, Int.reduceAdd, Int.reduceSub, ↓reduceIte, reduceCtorEq, c2, decide_eq_false c2]
          exact fin_ret (by rfl) (by simp [subMem, Dk.find])
      · obtain ⟨n, rs3, e3, h2⟩ : ∃ n rs3 e3, highR 8 (rs1, 0) = (n, rs3, e3) := ⟨_, _, _, rfl⟩
        have hs3 : rs3 <:+ b := (highR_suf h2).trans hs1
        have hn : n < 18446744073709551616 := highR_lt h2
        have hv' := varR_big h1 (.inr (.inr ⟨rfl, rfl, rfl⟩)) h2
        by_cases c2 : e3 = 0
        · subst c2
          obtain ⟨_, l3, hl3, hr3, _⟩ := highR_ok h2
          dsimp only at hr3
          have hlen3 : rs1.length = 8 + rs3.length := by rw [hr3]; simp [hl3]
          have hle3 := hs3.length_le
          have e1 : (((b.length - rs3.length : Nat) : Int) - ((b.length - rs.length : Nat) : Int)) = 9 := by omega
          by_cases c3 : n < 4294967296
          · have hv : (varB n).length < 9 := by
              simp only [varB]; split
              · simp
              · split
                · simp [highB_length]
                · split
                  · simp [highB_length]
                  · omega

            have hv2 : roomR m (rs, 0) = (0, rs, 11) := roomR_err (by decide) (fun most => by rw [hv' most, if_neg (by simp), if_pos c3]) m
            rw [hv2] at h
            simp only [Prod.mk.injEq] at h
            obtain ⟨rfl, rfl, rfl⟩ := h
            refine con_of_ev true [0, 1, 2, 3, 6, 7, 8, 9, 10, 11, 24, 26, 28, 37, 50, 58] 63 Try.func58 (code := _) rfl rfl Try.ntmps58 (by simp) [.cell 6 44, .tmp 7] (by rw [Try.results58]) ?_
            simp (maxSteps := 2000000) (disch := omega) only [go_sem, Int.reduceEq, Int.reduceNe, Nat.reduceBEq, Nat.reduceLT, Nat.reduceLeDiff, Nat.reduceAdd, Nat.reduceSub, Nat.reduceMul, Nat.reduceEqDiff, Int.reduceLT, Int.reduceLE, Int.reduceNeg, Int.reduceToNat, Int.reduceAdd, Int.reduceSub, ↓reduceIte, reduceCtorEq]
            refine awCall_con [] [] (rGet b rs 0 1 hl hs (by omega) h1) ?_ ?_ ?_ ?_ ?_; (focus kernel_rfl); (focus exact (.inl rfl)); (focus (simp [go_sem]; done)); (focus (simp [go_sem]; done)); rintro _ rfl; simp (maxSteps := 2000000) (disch := omega) only [go_sem, Int.reduceEq, Int.reduceNe, Nat.reduceBEq, Nat.reduceLT, Nat.reduceLeDiff, Nat.reduceAdd, Nat.reduceSub, Nat.reduceMul, Nat.reduceEqDiff, Int.reduceLT, Int.reduceLE, Int.reduceNeg, Int.reduceToNat, Int.reduceAdd, Int.reduceSub, ↓reduceIte, reduceCtorEq]
            refine awCall_con [] [] (rGet b rs1 0 8 hl hs1 (by omega) h2) ?_ ?_ ?_ ?_ ?_; (focus kernel_rfl); (focus exact (.inl rfl)); (focus (simp [go_sem]; done)); (focus (simp [go_sem]; done)); rintro _ rfl; simp (maxSteps := 2000000) (disch := omega) only [go_sem, Int.reduceEq, Int.reduceNe, Nat.reduceBEq, Nat.reduceLT, Nat.reduceLeDiff, Nat.reduceAdd, Nat.reduceSub, Nat.reduceMul, Nat.reduceEqDiff, Int.reduceLT, Int.reduceLE, Int.reduceNeg, Int.reduceToNat, Int.reduceAdd, Int.reduceSub, ↓reduceIte, reduceCtorEq]
            refine z_draw [⟨[(10, none)], [], false, [0]⟩, ⟨[(42, some 0)], [0], true, []⟩, ⟨[(43, some 1)], [0, 1], false, [1]⟩, ⟨[(8, none)], [], false, [0, 1]⟩, ⟨[(45, some 3)], [3], false, [0, 1]⟩, ⟨[(3, none)], [], false, [0, 1]⟩, ⟨[(47, some 5)], [5], false, [0, 1]⟩, ⟨[(46, some 4), (48, some 6)], [3, 4, 5, 6], false, [0, 1]⟩, ⟨[(44, some 2), (49, some 7)], [0, 1, 2, 3, 4, 5, 6, 7], false, [1]⟩] [1] [(0, none), (1, none), (2, none), (3, none), (6, none), (7, none), (8, none), (9, none), (10, none), (11, none), (24, none), (26, none), (28, none), (37, none), (50, some 8), (58, none)] [(8, none, 1), (45, some 3, 1), (3, none, 1), (47, some 5, 1), (46, some 4, 1), (48, some 6, 1), (49, some 7, 1), (0, none, 1), (1, none, 1), (2, none, 1), (6, none, 1), (7, none, 1), (9, none, 1), (10, none, 1), (11, none, 1), (24, none, 1), (26, none, 1), (28, none, 1), (37, none, 1), (58, none, 1)] mixed (by kernel_rfl) (by kernel_rfl) (by kernel_rfl) ?_
            simp (maxSteps := 2000000) (disch := omega) only [go_sem, Int.reduceEq, Int.reduceNe, Nat.reduceBEq, Nat.reduceLT, Nat.reduceLeDiff, Nat.reduceAdd, Nat.reduceSub, Nat.reduceMul, Nat.reduceEqDiff, Int.reduceLT, Int.reduceLE, Int.reduceNeg, Int.reduceToNat, Int.reduceAdd, Int.reduceSub, ↓reduceIte, reduceCtorEq]
            refine evCall_con [(16, 100)] [] (rVar n (by omega)) ?_ ?_ ?_ ?_ ?_; (focus kernel_rfl); (focus exact (.inl rfl)); (focus (simp [go_sem]; done)); (focus (simp [go_sem]; done)); rintro _ rfl; simp (maxSteps := 2000000) (disch := omega) only [go_sem, Int.reduceEq, Int.reduceNe, Nat.reduceBEq, Nat.reduceLT, Nat.reduceLeDiff, Nat.reduceAdd, Nat.reduceSub, Nat.reduceMul, Nat.reduceEqDiff, Int.reduceLT, Int.reduceLE, Int.reduceNeg, Int.reduceToNat, Int.reduceAdd, Int.reduceSub, ↓reduceIte, reduceCtorEq]
            simp (maxSteps := 2000000) (disch := omega) only [go_sem, Int.reduceEq, Int.reduceNe, Nat.reduceBEq, Nat.reduceLT, Nat.reduceLeDiff, Nat.reduceAdd, Nat.reduceSub, Nat.reduceMul, Nat.reduceEqDiff, Int.reduceLT, Int.reduceLE, Int.reduceNeg, Int.reduceToNat, Int.reduceAdd, Int.reduceSub, ↓reduceIte, reduceCtorEq, e1, decide_eq_false (show ¬ (((varB n).length : Nat) : Int) = 9 from by omega)]
            exact fin_ret (by rfl) (by simp [subMem, Dk.find])
          · have hv : (varB n).length = 9 := by
              simp only [varB]
              rw [if_neg (by omega), if_neg (by omega), if_neg (by omega)]
              simp [highB_length]
            replace hv' : ∀ most, varR most (rs, 0) = if most < n then (0, rs, 12) else (n, rs3, 0) := fun most => by rw [hv' most, if_neg (by simp), if_neg c3]
            refine con_of_ev true [0, 1, 2, 3, 6, 7, 8, 9, 10, 11, 24, 26, 28, 37, 50, 58] 63 Try.func58 (code := _) rfl rfl Try.ntmps58 (by simp) [.cell 6 44, .tmp 7] (by rw [Try.results58]) ?_
            simp (maxSteps := 2000000) (disch := omega) only [go_sem, Int.reduceEq, Int.reduceNe, Nat.reduceBEq, Nat.reduceLT, Nat.reduceLeDiff, Nat.reduceAdd, Nat.reduceSub, Nat.reduceMul, Nat.reduceEqDiff, Int.reduceLT, Int.reduceLE, Int.reduceNeg, Int.reduceToNat, Int.reduceAdd, Int.reduceSub, ↓reduceIte, reduceCtorEq]
            refine awCall_con [] [] (rGet b rs 0 1 hl hs (by omega) h1) ?_ ?_ ?_ ?_ ?_; (focus kernel_rfl); (focus exact (.inl rfl)); (focus (simp [go_sem]; done)); (focus (simp [go_sem]; done)); rintro _ rfl; simp (maxSteps := 2000000) (disch := omega) only [go_sem, Int.reduceEq, Int.reduceNe, Nat.reduceBEq, Nat.reduceLT, Nat.reduceLeDiff, Nat.reduceAdd, Nat.reduceSub, Nat.reduceMul, Nat.reduceEqDiff, Int.reduceLT, Int.reduceLE, Int.reduceNeg, Int.reduceToNat, Int.reduceAdd, Int.reduceSub, ↓reduceIte, reduceCtorEq]
            refine awCall_con [] [] (rGet b rs1 0 8 hl hs1 (by omega) h2) ?_ ?_ ?_ ?_ ?_; (focus kernel_rfl); (focus exact (.inl rfl)); (focus (simp [go_sem]; done)); (focus (simp [go_sem]; done)); rintro _ rfl; simp (maxSteps := 2000000) (disch := omega) only [go_sem, Int.reduceEq, Int.reduceNe, Nat.reduceBEq, Nat.reduceLT, Nat.reduceLeDiff, Nat.reduceAdd, Nat.reduceSub, Nat.reduceMul, Nat.reduceEqDiff, Int.reduceLT, Int.reduceLE, Int.reduceNeg, Int.reduceToNat, Int.reduceAdd, Int.reduceSub, ↓reduceIte, reduceCtorEq]
            refine z_draw [⟨[(10, none)], [], false, [0]⟩, ⟨[(42, some 0)], [0], true, []⟩, ⟨[(43, some 1)], [0, 1], false, [1]⟩, ⟨[(8, none)], [], false, [0, 1]⟩, ⟨[(45, some 3)], [3], false, [0, 1]⟩, ⟨[(3, none)], [], false, [0, 1]⟩, ⟨[(47, some 5)], [5], false, [0, 1]⟩, ⟨[(46, some 4), (48, some 6)], [3, 4, 5, 6], false, [0, 1]⟩, ⟨[(44, some 2), (49, some 7)], [0, 1, 2, 3, 4, 5, 6, 7], false, [1]⟩] [1] [(0, none), (1, none), (2, none), (3, none), (6, none), (7, none), (8, none), (9, none), (10, none), (11, none), (24, none), (26, none), (28, none), (37, none), (50, some 8), (58, none)] [(8, none, 1), (45, some 3, 1), (3, none, 1), (47, some 5, 1), (46, some 4, 1), (48, some 6, 1), (49, some 7, 1), (0, none, 1), (1, none, 1), (2, none, 1), (6, none, 1), (7, none, 1), (9, none, 1), (10, none, 1), (11, none, 1), (24, none, 1), (26, none, 1), (28, none, 1), (37, none, 1), (58, none, 1)] mixed (by kernel_rfl) (by kernel_rfl) (by kernel_rfl) ?_
            simp (maxSteps := 2000000) (disch := omega) only [go_sem, Int.reduceEq, Int.reduceNe, Nat.reduceBEq, Nat.reduceLT, Nat.reduceLeDiff, Nat.reduceAdd, Nat.reduceSub, Nat.reduceMul, Nat.reduceEqDiff, Int.reduceLT, Int.reduceLE, Int.reduceNeg, Int.reduceToNat, Int.reduceAdd, Int.reduceSub, ↓reduceIte, reduceCtorEq]
            refine evCall_con [(16, 100)] [] (rVar n (by omega)) ?_ ?_ ?_ ?_ ?_; (focus kernel_rfl); (focus exact (.inl rfl)); (focus (simp [go_sem]; done)); (focus (simp [go_sem]; done)); rintro _ rfl; simp (maxSteps := 2000000) (disch := omega) only [go_sem, Int.reduceEq, Int.reduceNe, Nat.reduceBEq, Nat.reduceLT, Nat.reduceLeDiff, Nat.reduceAdd, Nat.reduceSub, Nat.reduceMul, Nat.reduceEqDiff, Int.reduceLT, Int.reduceLE, Int.reduceNeg, Int.reduceToNat, Int.reduceAdd, Int.reduceSub, ↓reduceIte, reduceCtorEq]
            simp (maxSteps := 2000000) (disch := omega) only [go_sem, Int.reduceEq, Int.reduceNe, Nat.reduceBEq, Nat.reduceLT, Nat.reduceLeDiff, Nat.reduceAdd, Nat.reduceSub, Nat.reduceMul, Nat.reduceEqDiff, Int.reduceLT, Int.reduceLE, Int.reduceNeg, Int.reduceToNat, Int.reduceAdd, Int.reduceSub, ↓reduceIte, reduceCtorEq, hv, e1]
            rw [roomR_good hv'] at h
            by_cases g1 : m < 0
            · rw [if_pos (.inl g1)] at h
              simp only [Prod.mk.injEq] at h
              obtain ⟨rfl, rfl, rfl⟩ := h
              simp (maxSteps := 2000000) (disch := omega) only [go_sem, Int.reduceEq, Int.reduceNe, Nat.reduceBEq, Nat.reduceLT, Nat.reduceLeDiff, Nat.reduceAdd, Nat.reduceSub, Nat.reduceMul, Nat.reduceEqDiff, Int.reduceLT, Int.reduceLE, Int.reduceNeg, Int.reduceToNat, Int.reduceAdd, Int.reduceSub, ↓reduceIte, reduceCtorEq, decide_eq_true g1]
              exact fin_ret (by rfl) (by simp [subMem, Dk.find])
            · have hm' := hm (by omega)
              by_cases g2 : m < n
              · rw [if_pos (.inr g2)] at h
                simp only [Prod.mk.injEq] at h
                obtain ⟨rfl, rfl, rfl⟩ := h
                simp (maxSteps := 2000000) (disch := omega) only [go_sem, Int.reduceEq, Int.reduceNe, Nat.reduceBEq, Nat.reduceLT, Nat.reduceLeDiff, Nat.reduceAdd, Nat.reduceSub, Nat.reduceMul, Nat.reduceEqDiff, Int.reduceLT, Int.reduceLE, Int.reduceNeg, Int.reduceToNat, Int.reduceAdd, Int.reduceSub, ↓reduceIte, reduceCtorEq, decide_eq_false g1, decide_eq_true (show (M : Int) < n from by omega)]
                exact fin_ret (by rfl) (by simp [subMem, Dk.find])
              · rw [if_neg (by simp only [not_or]; exact ⟨g1, g2⟩)] at h
                simp only [Prod.mk.injEq] at h
                obtain ⟨rfl, rfl, rfl⟩ := h
                simp (maxSteps := 2000000) (disch := omega) only [go_sem, Int.reduceEq, Int.reduceNe, Nat.reduceBEq, Nat.reduceLT, Nat.reduceLeDiff, Nat.reduceAdd, Nat.reduceSub, Nat.reduceMul, Nat.reduceEqDiff, Int.reduceLT, Int.reduceLE, Int.reduceNeg, Int.reduceToNat, Int.reduceAdd, Int.reduceSub, ↓reduceIte, reduceCtorEq, decide_eq_false g1, decide_eq_false (show ¬ (M : Int) < n from by omega)]
                exact fin_ret (by rfl) (by simp [subMem, Dk.find])
        · have hv2 : roomR m (rs, 0) = (0, rs, e3) := roomR_err c2 (fun most => by rw [hv' most, if_pos c2]) m
          rw [hv2] at h
          simp only [Prod.mk.injEq] at h
          obtain ⟨rfl, rfl, rfl⟩ := h
          refine con_of_ev true [0, 1, 2, 3, 6, 7, 8, 9, 10, 11, 24, 26, 28, 37, 50, 58] 63 Try.func58 (code := _) rfl rfl Try.ntmps58 (by simp) [.cell 6 44, .tmp 7] (by rw [Try.results58]) ?_
          simp (maxSteps := 2000000) (disch := omega) only [go_sem, Int.reduceEq, Int.reduceNe, Nat.reduceBEq, Nat.reduceLT, Nat.reduceLeDiff, Nat.reduceAdd, Nat.reduceSub, Nat.reduceMul, Nat.reduceEqDiff, Int.reduceLT, Int.reduceLE, Int.reduceNeg, Int.reduceToNat, Int.reduceAdd, Int.reduceSub, ↓reduceIte, reduceCtorEq]
          refine awCall_con [] [] (rGet b rs 0 1 hl hs (by omega) h1) ?_ ?_ ?_ ?_ ?_; (focus kernel_rfl); (focus exact (.inl rfl)); (focus (simp [go_sem]; done)); (focus (simp [go_sem]; done)); rintro _ rfl; simp (maxSteps := 2000000) (disch := omega) only [go_sem, Int.reduceEq, Int.reduceNe, Nat.reduceBEq, Nat.reduceLT, Nat.reduceLeDiff, Nat.reduceAdd, Nat.reduceSub, Nat.reduceMul, Nat.reduceEqDiff, Int.reduceLT, Int.reduceLE, Int.reduceNeg, Int.reduceToNat, Int.reduceAdd, Int.reduceSub, ↓reduceIte, reduceCtorEq]
          refine awCall_con [] [] (rGet b rs1 0 8 hl hs1 (by omega) h2) ?_ ?_ ?_ ?_ ?_; (focus kernel_rfl); (focus exact (.inl rfl)); (focus (simp [go_sem]; done)); (focus (simp [go_sem]; done)); rintro _ rfl; simp (maxSteps := 2000000) (disch := omega) only [go_sem, Int.reduceEq, Int.reduceNe, Nat.reduceBEq, Nat.reduceLT, Nat.reduceLeDiff, Nat.reduceAdd, Nat.reduceSub, Nat.reduceMul, Nat.reduceEqDiff, Int.reduceLT, Int.reduceLE, Int.reduceNeg, Int.reduceToNat, Int.reduceAdd, Int.reduceSub, ↓reduceIte, reduceCtorEq]
          simp (maxSteps := 2000000) (disch := omega) only [go_sem, Int.reduceEq, Int.reduceNe, Nat.reduceBEq, Nat.reduceLT, Nat.reduceLeDiff, Nat.reduceAdd, Nat.reduceSub, Nat.reduceMul, Nat.reduceEqDiff, Int.reduceLT, Int.reduceLE, Int.reduceNeg, Int.reduceToNat, Int.reduceAdd, Int.reduceSub, ↓reduceIte, reduceCtorEq, c2, decide_eq_false c2]
          exact fin_ret (by rfl) (by simp [subMem, Dk.find])
  · have hv2 : roomR m (rs, e) = (0, rs, e1) := roomR_err c0 (fun most => var1_err h1 c0 most) m
    rw [hv2] at h
    simp only [Prod.mk.injEq] at h
    obtain ⟨rfl, rfl, rfl⟩ := h
    refine con_of_ev true [0, 1, 2, 3, 6, 7, 8, 9, 10, 11, 24, 26, 28, 37, 50, 58] 63 Try.func58 (code := _) rfl rfl Try.ntmps58 (by simp) [.cell 6 44, .tmp 7] (by rw [Try.results58]) ?_
    simp (maxSteps := 2000000) (disch := omega) only [go_sem, Int.reduceEq, Int.reduceNe, Nat.reduceBEq, Nat.reduceLT, Nat.reduceLeDiff, Nat.reduceAdd, Nat.reduceSub, Nat.reduceMul, Nat.reduceEqDiff, Int.reduceLT, Int.reduceLE, Int.reduceNeg, Int.reduceToNat, Int.reduceAdd, Int.reduceSub, ↓reduceIte, reduceCtorEq]
    refine awCall_con [] [] (rGet b rs e 1 hl hs (by omega) h1) ?_ ?_ ?_ ?_ ?_; (focus kernel_rfl); (focus exact (.inl rfl)); (focus (simp [go_sem]; done)); (focus (simp [go_sem]; done)); rintro _ rfl; simp (maxSteps := 2000000) (disch := omega) only [go_sem, Int.reduceEq, Int.reduceNe, Nat.reduceBEq, Nat.reduceLT, Nat.reduceLeDiff, Nat.reduceAdd, Nat.reduceSub, Nat.reduceMul, Nat.reduceEqDiff, Int.reduceLT, Int.reduceLE, Int.reduceNeg, Int.reduceToNat, Int.reduceAdd, Int.reduceSub, ↓reduceIte, reduceCtorEq]
    simp (maxSteps := 2000000) (disch := omega) only [go_sem, Int.reduceEq, Int.reduceNe, Nat.reduceBEq, Nat.reduceLT, Nat.reduceLeDiff, Nat.reduceAdd, Nat.reduceSub, Nat.reduceMul, Nat.reduceEqDiff, Int.reduceLT, Int.reduceLE, Int.reduceNeg, Int.reduceToNat, Int.reduceAdd, Int.reduceSub, ↓reduceIte, reduceCtorEq, c0, decide_eq_false c0]
    exact fin_ret (by rfl) (by simp [subMem, Dk.find])
end Go.Proofs.Ytjmkgpkgagohoaa
