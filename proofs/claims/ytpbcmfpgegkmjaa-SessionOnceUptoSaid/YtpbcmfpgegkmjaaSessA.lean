/-
  SessA: contracts of functions of the program, and what follows from them.
-/
import Derived.Test.YtpbcmfpgegkmjaaTySess
import Derived.Test.YtpbcmfpgegkmjaaPlSess
set_option linter.all false
namespace Go.Proofs.Ytpbcmfpgegkmjaa
open Go Go.Dk
set_option linter.unusedSimpArgs false
set_option linter.unusedVariables false
set_option maxRecDepth 10000
set_option maxHeartbeats 4000000
set_option pp.deepTerms true
set_option pp.maxSteps 1000000

theorem New : (Con.mk [] [] [] (.ptr 3 0) [(3, .cells [.mp 1]), (1, .map (tblA (([] : Tbl))))]).ok Try.prog 7 := by
  refine ⟨?_, by simp [Con.wf, ids, inA, inM, inB, inL_nil, inL_cons, inL_append, inL_cellsB, inL_dat]⟩
  refine con_of_ev true [0] 4 Try.func7 (code := _) rfl rfl Try.ntmps7 (by simp) [.tmp 0] (by rw [Try.results7]) ?_
  simp (maxSteps := 2000000) (disch := omega) only [go_sem, List.length_map, Int.reduceEq, Int.reduceNe, Nat.reduceBEq, Nat.reduceLT, Nat.reduceLeDiff, Nat.reduceAdd, Nat.reduceSub, Nat.reduceMul, Nat.reduceEqDiff, Int.reduceLT, Int.reduceLE, Int.reduceNeg, Int.reduceToNat, Int.reduceAdd, Int.reduceSub, ↓reduceIte, reduceCtorEq]
  exact fin_ret (by rfl) (by simp [subMem, Dk.find, tblA])

theorem Look (l : Tbl) (id seq : Nat) (hid : id < 18446744073709551616) (hsq : seq < 18446744073709551616) (hl : l.length < 1000000000) {a : Ans} {is : Bool} {e : Int} (h : lookF l id seq = (a, is, e)) :
    (Con.mk [.ptr 1000 0, .v (.int .u64 id), .v (.int .u64 seq)] [(1000, .cells [.mp 1001]), (1001, .map (tblA (l)))] [1000, 1001] (.tup [.agg [.v (.int .i64 a.code), .v (.int .u64 a.id), .v (.int .u64 a.token), .v (.int .u64 a.until_), .v (.string a.target), .v (.string a.command)], .v (.bool is), .v (.int .i64 e)]) [(1000, .cells [.mp 1001]), (1001, .map (tblA (l)))]).ok Try.prog 11 := by
  refine ⟨?_, by simp [Con.wf, ids, inA, inM, inB, inL_nil, inL_cons, inL_append, inL_cellsB, inL_dat]⟩
  cases hlk : lookT id l with
  | none =>
    have h1 : lookI (id : Int) (tblA l) = none := by rw [lookI_tbl, hlk]; rfl
    simp only [lookF, hlk, Prod.mk.injEq] at h
    obtain ⟨rfl, rfl, rfl⟩ := h
    refine con_of_ev true [0, 1, 2, 6, 7, 8, 9, 10, 20, 24, 34] 42 Try.func11 (code := _) rfl rfl Try.ntmps11 (by simp) [.cell 6 29, .tmp 7, .tmp 8] (by rw [Try.results11]) ?_
    simp (maxSteps := 2000000) (disch := omega) only [go_sem, List.length_map, Int.reduceEq, Int.reduceNe, Nat.reduceBEq, Nat.reduceLT, Nat.reduceLeDiff, Nat.reduceAdd, Nat.reduceSub, Nat.reduceMul, Nat.reduceEqDiff, Int.reduceLT, Int.reduceLE, Int.reduceNeg, Int.reduceToNat, Int.reduceAdd, Int.reduceSub, ↓reduceIte, reduceCtorEq, h1]
    exact fin_ret (by rfl) (by simp [subMem, Dk.find])
  | some s =>
    have h1 : lookI (id : Int) (tblA l) = some (sesA s) := by rw [lookI_tbl, hlk]; rfl
    simp only [lookF, hlk] at h
    by_cases c1 : seq < s.2
    · rw [if_pos (.inl c1)] at h
      simp only [Prod.mk.injEq] at h
      obtain ⟨rfl, rfl, rfl⟩ := h
      refine con_of_ev true [0, 1, 2, 6, 7, 8, 9, 10, 20, 24, 34] 42 Try.func11 (code := _) rfl rfl Try.ntmps11 (by simp) [.cell 6 29, .tmp 7, .tmp 8] (by rw [Try.results11]) ?_
      simp (maxSteps := 2000000) (disch := omega) only [go_sem, List.length_map, Int.reduceEq, Int.reduceNe, Nat.reduceBEq, Nat.reduceLT, Nat.reduceLeDiff, Nat.reduceAdd, Nat.reduceSub, Nat.reduceMul, Nat.reduceEqDiff, Int.reduceLT, Int.reduceLE, Int.reduceNeg, Int.reduceToNat, Int.reduceAdd, Int.reduceSub, ↓reduceIte, reduceCtorEq, h1, sesA]
      simp (maxSteps := 2000000) (disch := omega) only [go_sem, List.length_map, Int.reduceEq, Int.reduceNe, Nat.reduceBEq, Nat.reduceLT, Nat.reduceLeDiff, Nat.reduceAdd, Nat.reduceSub, Nat.reduceMul, Nat.reduceEqDiff, Int.reduceLT, Int.reduceLE, Int.reduceNeg, Int.reduceToNat, Int.reduceAdd, Int.reduceSub, ↓reduceIte, reduceCtorEq, decide_eq_true (show (seq : Int) < s.2 from by omega)]
      exact fin_ret (by rfl) (by simp [subMem, Dk.find])
    · by_cases c2 : seq = 0
      · rw [if_pos (.inr c2)] at h
        simp only [Prod.mk.injEq] at h
        obtain ⟨rfl, rfl, rfl⟩ := h
        refine con_of_ev true [0, 1, 2, 6, 7, 8, 9, 10, 20, 24, 34] 42 Try.func11 (code := _) rfl rfl Try.ntmps11 (by simp) [.cell 6 29, .tmp 7, .tmp 8] (by rw [Try.results11]) ?_
        simp (maxSteps := 2000000) (disch := omega) only [go_sem, List.length_map, Int.reduceEq, Int.reduceNe, Nat.reduceBEq, Nat.reduceLT, Nat.reduceLeDiff, Nat.reduceAdd, Nat.reduceSub, Nat.reduceMul, Nat.reduceEqDiff, Int.reduceLT, Int.reduceLE, Int.reduceNeg, Int.reduceToNat, Int.reduceAdd, Int.reduceSub, ↓reduceIte, reduceCtorEq, h1, sesA]
        simp (maxSteps := 2000000) (disch := omega) only [go_sem, List.length_map, Int.reduceEq, Int.reduceNe, Nat.reduceBEq, Nat.reduceLT, Nat.reduceLeDiff, Nat.reduceAdd, Nat.reduceSub, Nat.reduceMul, Nat.reduceEqDiff, Int.reduceLT, Int.reduceLE, Int.reduceNeg, Int.reduceToNat, Int.reduceAdd, Int.reduceSub, ↓reduceIte, reduceCtorEq, decide_eq_false (show ¬ (seq : Int) < s.2 from by omega), decide_eq_true (show (seq : Int) = 0 from by omega)]
        exact fin_ret (by rfl) (by simp [subMem, Dk.find])
      · rw [if_neg (by simp [c1, c2])] at h
        by_cases c3 : seq = s.2
        · rw [if_pos c3] at h
          simp only [Prod.mk.injEq] at h
          obtain ⟨rfl, rfl, rfl⟩ := h
          refine con_of_ev true [0, 1, 2, 6, 7, 8, 9, 10, 20, 24, 34] 42 Try.func11 (code := _) rfl rfl Try.ntmps11 (by simp) [.cell 6 29, .tmp 7, .tmp 8] (by rw [Try.results11]) ?_
          simp (maxSteps := 2000000) (disch := omega) only [go_sem, List.length_map, Int.reduceEq, Int.reduceNe, Nat.reduceBEq, Nat.reduceLT, Nat.reduceLeDiff, Nat.reduceAdd, Nat.reduceSub, Nat.reduceMul, Nat.reduceEqDiff, Int.reduceLT, Int.reduceLE, Int.reduceNeg, Int.reduceToNat, Int.reduceAdd, Int.reduceSub, ↓reduceIte, reduceCtorEq, h1, sesA]
          simp (maxSteps := 2000000) (disch := omega) only [go_sem, List.length_map, Int.reduceEq, Int.reduceNe, Nat.reduceBEq, Nat.reduceLT, Nat.reduceLeDiff, Nat.reduceAdd, Nat.reduceSub, Nat.reduceMul, Nat.reduceEqDiff, Int.reduceLT, Int.reduceLE, Int.reduceNeg, Int.reduceToNat, Int.reduceAdd, Int.reduceSub, ↓reduceIte, reduceCtorEq, decide_eq_false (show ¬ (seq : Int) < s.2 from by omega), decide_eq_false (show ¬ (seq : Int) = 0 from by omega), decide_eq_true (show (seq : Int) = s.2 from by omega)]
          exact fin_ret (by rfl) (by simp [subMem, Dk.find])
        · rw [if_neg c3] at h
          simp only [Prod.mk.injEq] at h
          obtain ⟨rfl, rfl, rfl⟩ := h
          refine con_of_ev true [0, 1, 2, 6, 7, 8, 9, 10, 20, 24, 34] 42 Try.func11 (code := _) rfl rfl Try.ntmps11 (by simp) [.cell 6 29, .tmp 7, .tmp 8] (by rw [Try.results11]) ?_
          simp (maxSteps := 2000000) (disch := omega) only [go_sem, List.length_map, Int.reduceEq, Int.reduceNe, Nat.reduceBEq, Nat.reduceLT, Nat.reduceLeDiff, Nat.reduceAdd, Nat.reduceSub, Nat.reduceMul, Nat.reduceEqDiff, Int.reduceLT, Int.reduceLE, Int.reduceNeg, Int.reduceToNat, Int.reduceAdd, Int.reduceSub, ↓reduceIte, reduceCtorEq, h1, sesA]
          simp (maxSteps := 2000000) (disch := omega) only [go_sem, List.length_map, Int.reduceEq, Int.reduceNe, Nat.reduceBEq, Nat.reduceLT, Nat.reduceLeDiff, Nat.reduceAdd, Nat.reduceSub, Nat.reduceMul, Nat.reduceEqDiff, Int.reduceLT, Int.reduceLE, Int.reduceNeg, Int.reduceToNat, Int.reduceAdd, Int.reduceSub, ↓reduceIte, reduceCtorEq, decide_eq_false (show ¬ (seq : Int) < s.2 from by omega), decide_eq_false (show ¬ (seq : Int) = 0 from by omega), decide_eq_false (show ¬ (seq : Int) = s.2 from by omega)]
          exact fin_ret (by rfl) (by simp [subMem, Dk.find])

theorem Open (l : Tbl) (id : Nat) (hid : id < 18446744073709551616) (hl : l.length < 1000000000) {l2 : Tbl} {e : Int} (h : openF l id = (l2, e)) :
    (Con.mk [.ptr 1000 0, .v (.int .u64 id)] [(1000, .cells [.mp 1001]), (1001, .map (tblA (l)))] [1000, 1001] (.v (.int .i64 e)) [(1000, .cells [.mp 1001]), (1001, .map (tblA (l2)))]).ok Try.prog 9 := by
  refine ⟨?_, by simp [Con.wf, ids, inA, inM, inB, inL_nil, inL_cons, inL_append, inL_cellsB, inL_dat]⟩
  unfold openF at h
  cases hlk : lookT id l with
  | some s =>
    have h1 : lookI (id : Int) (tblA l) = some (sesA s) := by rw [lookI_tbl, hlk]; rfl
    rw [hlk] at h
    by_cases c0 : id = 0
    · rw [if_pos c0] at h
      simp only [Prod.mk.injEq] at h
      obtain ⟨rfl, rfl⟩ := h
      refine con_of_ev true [0, 1, 4, 6, 16, 19, 21] 34 Try.func9 (code := _) rfl rfl Try.ntmps9 (by simp) [.tmp 4] (by rw [Try.results9]) ?_
      simp (maxSteps := 2000000) (disch := omega) only [go_sem, List.length_map, Int.reduceEq, Int.reduceNe, Nat.reduceBEq, Nat.reduceLT, Nat.reduceLeDiff, Nat.reduceAdd, Nat.reduceSub, Nat.reduceMul, Nat.reduceEqDiff, Int.reduceLT, Int.reduceLE, Int.reduceNeg, Int.reduceToNat, Int.reduceAdd, Int.reduceSub, ↓reduceIte, reduceCtorEq, h1, sesA, decide_eq_true (show (id : Int) = 0 from by omega)]
      exact fin_ret (by rfl) (by simp [subMem, Dk.find])
    · rw [if_neg c0] at h
      simp only [Option.isSome_some, if_true, Prod.mk.injEq] at h
      obtain ⟨rfl, rfl⟩ := h
      refine con_of_ev true [0, 1, 4, 6, 16, 19, 21] 34 Try.func9 (code := _) rfl rfl Try.ntmps9 (by simp) [.tmp 4] (by rw [Try.results9]) ?_
      simp (maxSteps := 2000000) (disch := omega) only [go_sem, List.length_map, Int.reduceEq, Int.reduceNe, Nat.reduceBEq, Nat.reduceLT, Nat.reduceLeDiff, Nat.reduceAdd, Nat.reduceSub, Nat.reduceMul, Nat.reduceEqDiff, Int.reduceLT, Int.reduceLE, Int.reduceNeg, Int.reduceToNat, Int.reduceAdd, Int.reduceSub, ↓reduceIte, reduceCtorEq, h1, sesA, decide_eq_false (show ¬ (id : Int) = 0 from by omega)]
      exact fin_ret (by rfl) (by simp [subMem, Dk.find])
  | none =>
    have h1 : lookI (id : Int) (tblA l) = none := by rw [lookI_tbl, hlk]; rfl
    rw [hlk] at h
    by_cases c0 : id = 0
    · rw [if_pos c0] at h
      simp only [Prod.mk.injEq] at h
      obtain ⟨rfl, rfl⟩ := h
      refine con_of_ev true [0, 1, 4, 6, 16, 19, 21] 34 Try.func9 (code := _) rfl rfl Try.ntmps9 (by simp) [.tmp 4] (by rw [Try.results9]) ?_
      simp (maxSteps := 2000000) (disch := omega) only [go_sem, List.length_map, Int.reduceEq, Int.reduceNe, Nat.reduceBEq, Nat.reduceLT, Nat.reduceLeDiff, Nat.reduceAdd, Nat.reduceSub, Nat.reduceMul, Nat.reduceEqDiff, Int.reduceLT, Int.reduceLE, Int.reduceNeg, Int.reduceToNat, Int.reduceAdd, Int.reduceSub, ↓reduceIte, reduceCtorEq, h1, decide_eq_true (show (id : Int) = 0 from by omega)]
      exact fin_ret (by rfl) (by simp [subMem, Dk.find])
    · rw [if_neg c0, if_neg (by simp)] at h
      by_cases c1 : 16 ≤ l.length
      · rw [if_pos c1] at h
        simp only [Prod.mk.injEq] at h
        obtain ⟨rfl, rfl⟩ := h
        refine con_of_ev true [0, 1, 4, 6, 16, 19, 21] 34 Try.func9 (code := _) rfl rfl Try.ntmps9 (by simp) [.tmp 4] (by rw [Try.results9]) ?_
        simp (maxSteps := 2000000) (disch := omega) only [go_sem, List.length_map, Int.reduceEq, Int.reduceNe, Nat.reduceBEq, Nat.reduceLT, Nat.reduceLeDiff, Nat.reduceAdd, Nat.reduceSub, Nat.reduceMul, Nat.reduceEqDiff, Int.reduceLT, Int.reduceLE, Int.reduceNeg, Int.reduceToNat, Int.reduceAdd, Int.reduceSub, ↓reduceIte, reduceCtorEq, h1, decide_eq_false (show ¬ (id : Int) = 0 from by omega), decide_eq_true (show (16 : Int) ≤ l.length from by omega)]
        exact fin_ret (by rfl) (by simp [subMem, Dk.find])
      · rw [if_neg c1] at h
        simp only [Prod.mk.injEq] at h
        obtain ⟨rfl, rfl⟩ := h
        refine con_of_ev true [0, 1, 4, 6, 16, 19, 21] 34 Try.func9 (code := _) rfl rfl Try.ntmps9 (by simp) [.tmp 4] (by rw [Try.results9]) ?_
        simp (maxSteps := 2000000) (disch := omega) only [go_sem, List.length_map, Int.reduceEq, Int.reduceNe, Nat.reduceBEq, Nat.reduceLT, Nat.reduceLeDiff, Nat.reduceAdd, Nat.reduceSub, Nat.reduceMul, Nat.reduceEqDiff, Int.reduceLT, Int.reduceLE, Int.reduceNeg, Int.reduceToNat, Int.reduceAdd, Int.reduceSub, ↓reduceIte, reduceCtorEq, h1, decide_eq_false (show ¬ (id : Int) = 0 from by omega), decide_eq_false (show ¬ (16 : Int) ≤ l.length from by omega)]
        exact fin_ret (by rfl) (by simp [subMem, Dk.find]; exact updI_tbl id (Ans.zero, 0) l)

theorem Len (l : Tbl) : (Con.mk [.ptr 1000 0] [(1000, .cells [.mp 1001]), (1001, .map (tblA (l)))] [1000, 1001] (.v (.int .i64 l.length)) [(1000, .cells [.mp 1001]), (1001, .map (tblA (l)))]).ok Try.prog 14 := by
  refine ⟨?_, by simp [Con.wf, ids, inA, inM, inB, inL_nil, inL_cons, inL_append, inL_cellsB, inL_dat]⟩
  refine con_of_ev true [0, 2] 8 Try.func14 (code := _) rfl rfl Try.ntmps14 (by simp) [.tmp 2] (by rw [Try.results14]) ?_
  simp (maxSteps := 2000000) (disch := omega) only [go_sem, List.length_map, Int.reduceEq, Int.reduceNe, Nat.reduceBEq, Nat.reduceLT, Nat.reduceLeDiff, Nat.reduceAdd, Nat.reduceSub, Nat.reduceMul, Nat.reduceEqDiff, Int.reduceLT, Int.reduceLE, Int.reduceNeg, Int.reduceToNat, Int.reduceAdd, Int.reduceSub, ↓reduceIte, reduceCtorEq]
  exact fin_ret (by rfl) (by simp [subMem, Dk.find])

theorem Keep (l : Tbl) (id seq : Nat) (a : Ans) (hid : id < 18446744073709551616) (hsq : seq < 18446744073709551616) (hl : l.length < 1000000000) {l2 : Tbl} {e : Int} (h : keepF l id seq a = (l2, e)) :
    (Con.mk [.ptr 1000 0, .v (.int .u64 id), .v (.int .u64 seq), .agg [.v (.int .i64 a.code), .v (.int .u64 a.id), .v (.int .u64 a.token), .v (.int .u64 a.until_), .v (.string a.target), .v (.string a.command)]] [(1000, .cells [.mp 1001]), (1001, .map (tblA (l)))] [1000, 1001] (.v (.int .i64 e)) [(1000, .cells [.mp 1001]), (1001, .map (tblA (l2)))]).ok Try.prog 10 := by
  refine ⟨?_, by simp [Con.wf, ids, inA, inM, inB, inL_nil, inL_cons, inL_append, inL_cellsB, inL_dat]⟩
  obtain ⟨b, is, e1, hk⟩ : ∃ b is e1, lookF l id seq = (b, is, e1) := ⟨_, _, _, rfl⟩
  unfold keepF at h
  rw [hk] at h
  dsimp only at h
  by_cases c0 : e1 = 0
  · subst c0
    cases is with
    | true =>
      rw [if_neg (by simp), if_pos rfl] at h
      simp only [Prod.mk.injEq] at h
      obtain ⟨rfl, rfl⟩ := h
      refine con_of_ev true [0, 1, 2, 3, 7, 8, 10, 11, 24, 26] 36 Try.func10 (code := _) rfl rfl Try.ntmps10 (by simp) [.tmp 8] (by rw [Try.results10]) ?_
      simp (maxSteps := 2000000) (disch := omega) only [go_sem, List.length_map, Int.reduceEq, Int.reduceNe, Nat.reduceBEq, Nat.reduceLT, Nat.reduceLeDiff, Nat.reduceAdd, Nat.reduceSub, Nat.reduceMul, Nat.reduceEqDiff, Int.reduceLT, Int.reduceLE, Int.reduceNeg, Int.reduceToNat, Int.reduceAdd, Int.reduceSub, ↓reduceIte, reduceCtorEq]
      refine awCall_con [] [] (Look l id seq hid hsq hl hk) ?_ ?_ ?_ ?_ ?_; (focus kernel_rfl); (focus exact (.inl rfl)); (focus (simp [go_sem]; done)); (focus (simp [go_sem]; done)); rintro _ rfl; simp (maxSteps := 2000000) (disch := omega) only [go_sem, List.length_map, Int.reduceEq, Int.reduceNe, Nat.reduceBEq, Nat.reduceLT, Nat.reduceLeDiff, Nat.reduceAdd, Nat.reduceSub, Nat.reduceMul, Nat.reduceEqDiff, Int.reduceLT, Int.reduceLE, Int.reduceNeg, Int.reduceToNat, Int.reduceAdd, Int.reduceSub, ↓reduceIte, reduceCtorEq]
      exact fin_ret (by rfl) (by simp [subMem, Dk.find])
    | false =>
      rw [if_pos ⟨rfl, rfl⟩] at h
      simp only [Prod.mk.injEq] at h
      obtain ⟨rfl, rfl⟩ := h
      refine con_of_ev true [0, 1, 2, 3, 7, 8, 10, 11, 24, 26] 36 Try.func10 (code := _) rfl rfl Try.ntmps10 (by simp) [.tmp 8] (by rw [Try.results10]) ?_
      simp (maxSteps := 2000000) (disch := omega) only [go_sem, List.length_map, Int.reduceEq, Int.reduceNe, Nat.reduceBEq, Nat.reduceLT, Nat.reduceLeDiff, Nat.reduceAdd, Nat.reduceSub, Nat.reduceMul, Nat.reduceEqDiff, Int.reduceLT, Int.reduceLE, Int.reduceNeg, Int.reduceToNat, Int.reduceAdd, Int.reduceSub, ↓reduceIte, reduceCtorEq]
      refine awCall_con [] [] (Look l id seq hid hsq hl hk) ?_ ?_ ?_ ?_ ?_; (focus kernel_rfl); (focus exact (.inl rfl)); (focus (simp [go_sem]; done)); (focus (simp [go_sem]; done)); rintro _ rfl; simp (maxSteps := 2000000) (disch := omega) only [go_sem, List.length_map, Int.reduceEq, Int.reduceNe, Nat.reduceBEq, Nat.reduceLT, Nat.reduceLeDiff, Nat.reduceAdd, Nat.reduceSub, Nat.reduceMul, Nat.reduceEqDiff, Int.reduceLT, Int.reduceLE, Int.reduceNeg, Int.reduceToNat, Int.reduceAdd, Int.reduceSub, ↓reduceIte, reduceCtorEq]
      refine z_draw [⟨[(0, none)], [], false, [0]⟩, ⟨[(27, some 0)], [0], false, [0]⟩, ⟨[(28, some 1)], [0, 1], false, [0]⟩, ⟨[(29, some 2)], [0, 1, 2], false, [0]⟩, ⟨[(1, none)], [], false, [0]⟩, ⟨[(2, none)], [], false, [0]⟩, ⟨[(7, none)], [], false, [0]⟩, ⟨[(32, some 5), (33, some 6)], [5, 6], false, [0]⟩, ⟨[(30, some 3), (31, some 4), (34, some 7)], [0, 1, 2, 3, 4, 5, 6, 7], true, []⟩] [8] [(0, none), (1, none), (2, none), (3, none), (7, none), (8, none), (10, none), (11, none), (24, none), (26, none)] [(0, none, 8), (1, none, 8), (2, none, 8), (3, none, 8), (7, none, 8), (8, none, 8), (10, none, 8), (11, none, 8), (24, none, 8), (26, none, 8)] mixed (by kernel_rfl) (by kernel_rfl) (by kernel_rfl) ?_
      simp (maxSteps := 2000000) (disch := omega) only [go_sem, List.length_map, Int.reduceEq, Int.reduceNe, Nat.reduceBEq, Nat.reduceLT, Nat.reduceLeDiff, Nat.reduceAdd, Nat.reduceSub, Nat.reduceMul, Nat.reduceEqDiff, Int.reduceLT, Int.reduceLE, Int.reduceNeg, Int.reduceToNat, Int.reduceAdd, Int.reduceSub, ↓reduceIte, reduceCtorEq]
      exact fin_ret (by rfl) (by simp [subMem, Dk.find]; exact updI_tbl id (a, seq) l)
  · rw [if_neg (by simp [c0]), if_neg c0] at h
    simp only [Prod.mk.injEq] at h
    obtain ⟨rfl, rfl⟩ := h
    refine con_of_ev true [0, 1, 2, 3, 7, 8, 10, 11, 24, 26] 36 Try.func10 (code := _) rfl rfl Try.ntmps10 (by simp) [.tmp 8] (by rw [Try.results10]) ?_
    simp (maxSteps := 2000000) (disch := omega) only [go_sem, List.length_map, Int.reduceEq, Int.reduceNe, Nat.reduceBEq, Nat.reduceLT, Nat.reduceLeDiff, Nat.reduceAdd, Nat.reduceSub, Nat.reduceMul, Nat.reduceEqDiff, Int.reduceLT, Int.reduceLE, Int.reduceNeg, Int.reduceToNat, Int.reduceAdd, Int.reduceSub, ↓reduceIte, reduceCtorEq]
    refine awCall_con [] [] (Look l id seq hid hsq hl hk) ?_ ?_ ?_ ?_ ?_; (focus kernel_rfl); (focus exact (.inl rfl)); (focus (simp [go_sem]; done)); (focus (simp [go_sem]; done)); rintro _ rfl; simp (maxSteps := 2000000) (disch := omega) only [go_sem, List.length_map, Int.reduceEq, Int.reduceNe, Nat.reduceBEq, Nat.reduceLT, Nat.reduceLeDiff, Nat.reduceAdd, Nat.reduceSub, Nat.reduceMul, Nat.reduceEqDiff, Int.reduceLT, Int.reduceLE, Int.reduceNeg, Int.reduceToNat, Int.reduceAdd, Int.reduceSub, ↓reduceIte, reduceCtorEq]
    simp (maxSteps := 2000000) (disch := omega) only [go_sem, List.length_map, Int.reduceEq, Int.reduceNe, Nat.reduceBEq, Nat.reduceLT, Nat.reduceLeDiff, Nat.reduceAdd, Nat.reduceSub, Nat.reduceMul, Nat.reduceEqDiff, Int.reduceLT, Int.reduceLE, Int.reduceNeg, Int.reduceToNat, Int.reduceAdd, Int.reduceSub, ↓reduceIte, reduceCtorEq, decide_eq_false c0, c0]
    exact fin_ret (by rfl) (by simp [subMem, Dk.find])
end Go.Proofs.Ytpbcmfpgegkmjaa
