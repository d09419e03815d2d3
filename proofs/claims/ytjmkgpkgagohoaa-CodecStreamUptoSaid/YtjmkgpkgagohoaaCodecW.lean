/-
  CodecW: contracts of functions of the program, and what follows from them.
-/
import Derived.Test.YtjmkgpkgagohoaaTyCodec
import Derived.Test.YtjmkgpkgagohoaaCodecV
import Derived.Test.YtjmkgpkgagohoaaCodecS
import Derived.Test.YtjmkgpkgagohoaaPlFrame2
set_option linter.all false
namespace Go.Proofs.Ytjmkgpkgagohoaa
open Go Go.Dk
set_option linter.unusedSimpArgs false
set_option linter.unusedVariables false
set_option maxRecDepth 10000
set_option maxHeartbeats 4000000
set_option pp.deepTerms true
set_option pp.maxSteps 1000000

theorem chunk_take' (l : List UInt8) (c : Nat) (h : c ≤ l.length) : chunk 1 c ((l.map fun b => Dat.v (.int .u8 (b.toNat : Int))).take c) = rowsB (l.take c) := by
  have := chunk_cellsB (l.take c)
  rwa [List.length_take, Nat.min_eq_left h, List.map_take] at this

theorem CodecUnframes (b more : List UInt8) (at_ : Int) (hl : b.length < 1000000000) (hr : more.length < 1000000000) (ha : -9223372036854775808 ≤ at_ ∧ at_ ≤ 9223372036854775807) :
    (Con.mk [.imm false 1 (rowsB b), .imm false 1 (rowsB more), .v (.int .i64 at_)] [] [] (.v (.bool true)) []).ok Try.prog 12 := by
  refine ⟨?_, by simp [Con.wf, ids, inA, inM, inB, inL_nil, inL_cons, inL_append, inL_cellsB, inL_dat]⟩
  by_cases c0 : 16777216 < b.length
  · have hf : frameF b = ([], 12) := if_pos c0
    refine con_of_ev true [0, 1, 2, 6, 7, 8, 9, 10, 11, 13, 14, 15, 16, 17, 24, 61, 70, 85] 116 Try.func12 (code := _) rfl rfl Try.ntmps12 (by simp) [.tmp 6] (by rw [Try.results12]) ?_
    simp (maxSteps := 2000000) (disch := omega) only [go_sem, List.length_map, Int.reduceEq, Int.reduceNe, Nat.reduceBEq, Nat.reduceLT, Nat.reduceLeDiff, Nat.reduceAdd, Nat.reduceSub, Nat.reduceMul, Nat.reduceEqDiff, Int.reduceLT, Int.reduceLE, Int.reduceNeg, Int.reduceToNat, Int.reduceAdd, Int.reduceSub, ↓reduceIte, reduceCtorEq]
    refine awCall_con [(102, 200)] [] (Frame b hl hf) ?_ ?_ ?_ ?_ ?_; (focus kernel_rfl); (focus exact (.inl rfl)); (focus (simp [go_sem]; done)); (focus (simp [go_sem]; done)); rintro _ rfl; simp (maxSteps := 2000000) (disch := omega) only [go_sem, List.length_map, Int.reduceEq, Int.reduceNe, Nat.reduceBEq, Nat.reduceLT, Nat.reduceLeDiff, Nat.reduceAdd, Nat.reduceSub, Nat.reduceMul, Nat.reduceEqDiff, Int.reduceLT, Int.reduceLE, Int.reduceNeg, Int.reduceToNat, Int.reduceAdd, Int.reduceSub, ↓reduceIte, reduceCtorEq]
    refine awCall_con [] [] (alive) ?_ ?_ ?_ ?_ ?_; (focus kernel_rfl); (focus exact (.inl rfl)); (focus (simp [go_sem]; done)); (focus (simp [go_sem]; done)); rintro _ rfl; simp (maxSteps := 2000000) (disch := omega) only [go_sem, List.length_map, Int.reduceEq, Int.reduceNe, Nat.reduceBEq, Nat.reduceLT, Nat.reduceLeDiff, Nat.reduceAdd, Nat.reduceSub, Nat.reduceMul, Nat.reduceEqDiff, Int.reduceLT, Int.reduceLE, Int.reduceNeg, Int.reduceToNat, Int.reduceAdd, Int.reduceSub, ↓reduceIte, reduceCtorEq]
    exact fin_ret (by rfl) (by simp [subMem])
  · have hf : frameF b = (frameB b, 0) := if_neg c0
    have hfl := frameB_length b
    have hu := unframe_frame b more (by omega)
    rw [← hfl] at hu
    refine con_of_ev true [0, 1, 2, 6, 7, 8, 9, 10, 11, 13, 14, 15, 16, 17, 24, 61, 70, 85] 116 Try.func12 (code := _) rfl rfl Try.ntmps12 (by simp) [.tmp 6] (by rw [Try.results12]) ?_
    simp (maxSteps := 2000000) (disch := omega) only [go_sem, List.length_map, Int.reduceEq, Int.reduceNe, Nat.reduceBEq, Nat.reduceLT, Nat.reduceLeDiff, Nat.reduceAdd, Nat.reduceSub, Nat.reduceMul, Nat.reduceEqDiff, Int.reduceLT, Int.reduceLE, Int.reduceNeg, Int.reduceToNat, Int.reduceAdd, Int.reduceSub, ↓reduceIte, reduceCtorEq]
    refine awCall_con [(102, 200)] [] (Frame b hl hf) ?_ ?_ ?_ ?_ ?_; (focus kernel_rfl); (focus exact (.inl rfl)); (focus (simp [go_sem]; done)); (focus (simp [go_sem]; done)); rintro _ rfl; simp (maxSteps := 2000000) (disch := omega) only [go_sem, List.length_map, Int.reduceEq, Int.reduceNe, Nat.reduceBEq, Nat.reduceLT, Nat.reduceLeDiff, Nat.reduceAdd, Nat.reduceSub, Nat.reduceMul, Nat.reduceEqDiff, Int.reduceLT, Int.reduceLE, Int.reduceNeg, Int.reduceToNat, Int.reduceAdd, Int.reduceSub, ↓reduceIte, reduceCtorEq]
    simp (maxSteps := 2000000) (disch := omega) only [go_sem, List.length_map, Int.reduceEq, Int.reduceNe, Nat.reduceBEq, Nat.reduceLT, Nat.reduceLeDiff, Nat.reduceAdd, Nat.reduceSub, Nat.reduceMul, Nat.reduceEqDiff, Int.reduceLT, Int.reduceLE, Int.reduceNeg, Int.reduceToNat, Int.reduceAdd, Int.reduceSub, ↓reduceIte, reduceCtorEq, List.take_length, ← List.length_append]
    have hut := unframe_take b (by omega)
    have hus := unframe_set b (by omega)
    have hwl : (frameB b ++ more).length ≤ 3000000000 := by rw [List.length_append]; omega
    generalize frameB b ++ more = w at hu hwl ⊢
    generalize frameB b = f at *
    refine awCall_con [] [37] (Unframe w (by omega) hu) ?_ ?_ ?_ ?_ ?_; (focus kernel_rfl); (focus exact (.inr ⟨by simp [AV.strong, strongL], by simp [strongM, strongB, strongL, strongL_cellsB, AV.strong]⟩)); (focus (simp [go_sem, datsL_cellsB, chunk_cellsB]; done)); (focus (simp [go_sem, datsL_cellsB, chunk_cellsB]; done)); rintro _ rfl; simp (maxSteps := 2000000) (disch := omega) only [go_sem, List.length_map, Int.reduceEq, Int.reduceNe, Nat.reduceBEq, Nat.reduceLT, Nat.reduceLeDiff, Nat.reduceAdd, Nat.reduceSub, Nat.reduceMul, Nat.reduceEqDiff, Int.reduceLT, Int.reduceLE, Int.reduceNeg, Int.reduceToNat, Int.reduceAdd, Int.reduceSub, ↓reduceIte, reduceCtorEq]
    refine awCall_con [] [] (alive) ?_ ?_ ?_ ?_ ?_; (focus kernel_rfl); (focus exact (.inl rfl)); (focus (simp [go_sem]; done)); (focus (simp [go_sem]; done)); rintro _ rfl; simp (maxSteps := 2000000) (disch := omega) only [go_sem, List.length_map, Int.reduceEq, Int.reduceNe, Nat.reduceBEq, Nat.reduceLT, Nat.reduceLeDiff, Nat.reduceAdd, Nat.reduceSub, Nat.reduceMul, Nat.reduceEqDiff, Int.reduceLT, Int.reduceLE, Int.reduceNeg, Int.reduceToNat, Int.reduceAdd, Int.reduceSub, ↓reduceIte, reduceCtorEq]
    refine awCall_con [] [] (same b b) ?_ ?_ ?_ ?_ ?_; (focus kernel_rfl); (focus exact (.inl rfl)); (focus (simp [go_sem]; done)); (focus (simp [go_sem]; done)); rintro _ rfl; simp (maxSteps := 2000000) (disch := omega) only [go_sem, List.length_map, Int.reduceEq, Int.reduceNe, Nat.reduceBEq, Nat.reduceLT, Nat.reduceLeDiff, Nat.reduceAdd, Nat.reduceSub, Nat.reduceMul, Nat.reduceEqDiff, Int.reduceLT, Int.reduceLE, Int.reduceNeg, Int.reduceToNat, Int.reduceAdd, Int.reduceSub, ↓reduceIte, reduceCtorEq]
    by_cases g1 : at_ < 0
    · simp (maxSteps := 2000000) (disch := omega) only [go_sem, List.length_map, Int.reduceEq, Int.reduceNe, Nat.reduceBEq, Nat.reduceLT, Nat.reduceLeDiff, Nat.reduceAdd, Nat.reduceSub, Nat.reduceMul, Nat.reduceEqDiff, Int.reduceLT, Int.reduceLE, Int.reduceNeg, Int.reduceToNat, Int.reduceAdd, Int.reduceSub, ↓reduceIte, reduceCtorEq, decide_eq_true g1]
      exact fin_ret (by rfl) (by simp [subMem])
    · obtain ⟨k, rfl⟩ : ∃ k : Nat, at_ = k := ⟨at_.toNat, by omega⟩
      have hk : (k : Int).tdiv 8 = ((k / 8 : Nat) : Int) := rfl
      by_cases g2 : f.length ≤ k / 8
      · simp (maxSteps := 2000000) (disch := omega) only [go_sem, List.length_map, Int.reduceEq, Int.reduceNe, Nat.reduceBEq, Nat.reduceLT, Nat.reduceLeDiff, Nat.reduceAdd, Nat.reduceSub, Nat.reduceMul, Nat.reduceEqDiff, Int.reduceLT, Int.reduceLE, Int.reduceNeg, Int.reduceToNat, Int.reduceAdd, Int.reduceSub, ↓reduceIte, reduceCtorEq, decide_eq_false g1, hk, decide_eq_true (show (f.length : Int) ≤ ((k / 8 : Nat) : Int) from by omega)]
        exact fin_ret (by rfl) (by simp [subMem])
      · have g3 : k / 8 < f.length := by omega
        have g4 : k / 8 ≤ f.length := by omega
        have hch := chunk_take' f (k / 8) g4
        simp (maxSteps := 2000000) (disch := omega) only [go_sem, List.length_map, Int.reduceEq, Int.reduceNe, Nat.reduceBEq, Nat.reduceLT, Nat.reduceLeDiff, Nat.reduceAdd, Nat.reduceSub, Nat.reduceMul, Nat.reduceEqDiff, Int.reduceLT, Int.reduceLE, Int.reduceNeg, Int.reduceToNat, Int.reduceAdd, Int.reduceSub, ↓reduceIte, reduceCtorEq, decide_eq_false g1, hk, decide_eq_false (show ¬ (f.length : Int) ≤ ((k / 8 : Nat) : Int) from by omega)]
        refine awCall_con [] [200] (Unframe (f.take (k / 8)) (by simp; omega) (hut (k / 8) g3)) ?_ ?_ ?_ ?_ ?_; (focus kernel_rfl); (focus exact (.inr ⟨by simp [AV.strong, strongL], by simp [strongM, strongB, strongL, strongL_cellsB, AV.strong]⟩)); (focus (simp [go_sem, viewIn, datsL_cellsB, hch, g4]; done)); (focus (simp [go_sem, viewIn, datsL_cellsB, hch, g4]; done)); rintro _ rfl; simp (maxSteps := 2000000) (disch := omega) only [go_sem, List.length_map, Int.reduceEq, Int.reduceNe, Nat.reduceBEq, Nat.reduceLT, Nat.reduceLeDiff, Nat.reduceAdd, Nat.reduceSub, Nat.reduceMul, Nat.reduceEqDiff, Int.reduceLT, Int.reduceLE, Int.reduceNeg, Int.reduceToNat, Int.reduceAdd, Int.reduceSub, ↓reduceIte, reduceCtorEq]
        refine z_draw [⟨[(7, none)], [], false, [0]⟩, ⟨[(2, none)], [], false, [0]⟩, ⟨[(87, some 1)], [1], false, [0]⟩, ⟨[(7, none)], [], false, [0]⟩, ⟨[(2, none)], [], false, [0]⟩, ⟨[(90, some 4)], [4], false, [0]⟩, ⟨[(89, some 3), (91, some 5)], [3, 4, 5], false, [0]⟩, ⟨[(92, some 6)], [3, 4, 5, 6], false, [0]⟩, ⟨[(2, none)], [], false, [0]⟩, ⟨[(94, some 8)], [8], false, [0]⟩, ⟨[(95, some 9)], [8, 9], false, [0]⟩, ⟨[(93, some 7), (96, some 10)], [3, 4, 5, 6, 7, 8, 9, 10], false, [0]⟩, ⟨[(86, some 0), (88, some 2)], [0, 1, 2, 3, 4, 5, 6, 7, 8, 9, 10, 11], false, [0]⟩, ⟨[(98, some 12), (97, some 11)], [0, 1, 2, 3, 4, 5, 6, 7, 8, 9, 10, 11, 12], true, []⟩] [13] [(0, none), (1, none), (2, none), (6, none), (7, none), (8, none), (9, none), (10, none), (11, none), (13, none), (14, none), (15, none), (16, none), (17, none), (24, none), (61, none), (70, none), (85, none)] [(0, none, 13), (1, none, 13), (2, none, 13), (6, none, 13), (7, none, 13), (8, none, 13), (9, none, 13), (10, none, 13), (11, none, 13), (13, none, 13), (14, none, 13), (15, none, 13), (16, none, 13), (17, none, 13), (24, none, 13), (61, none, 13), (70, none, 13), (85, none, 13)] mixed (by kernel_rfl) (by kernel_rfl) (by kernel_rfl) ?_
        have hg : f[k / 8]? = some f[k / 8] := List.getElem?_eq_getElem g3
        have hm : (k : Int).tmod 8 = ((k % 8 : Nat) : Int) := rfl
        simp (maxSteps := 2000000) (disch := omega) only [go_sem, List.length_map, Int.reduceEq, Int.reduceNe, Nat.reduceBEq, Nat.reduceLT, Nat.reduceLeDiff, Nat.reduceAdd, Nat.reduceSub, Nat.reduceMul, Nat.reduceEqDiff, Int.reduceLT, Int.reduceLE, Int.reduceNeg, Int.reduceToNat, Int.reduceAdd, Int.reduceSub, ↓reduceIte, reduceCtorEq, hk, hg, List.head?_drop, hm]
        obtain ⟨c, hc, hne⟩ := flip_val f[k / 8] (k % 8) (by omega)
        have hu2 := hus (k / 8) c g3 hne
        have hdl : (f.set (k / 8) c).length = f.length := List.length_set
        erw [hc]
        rw [cellsB_set]
        generalize f.set (k / 8) c = d at hdl hu2 ⊢
        rw [← hdl]
        refine awCall_con [] [200] (Unframe d (by omega) hu2) ?_ ?_ ?_ ?_ ?_; (focus kernel_rfl); (focus exact (.inr ⟨by simp [AV.strong, strongL], by simp [strongM, strongB, strongL, strongL_cellsB, AV.strong]⟩)); (focus (simp [go_sem, datsL_cellsB, chunk_cellsB]; done)); (focus (simp [go_sem, datsL_cellsB, chunk_cellsB]; done)); rintro _ rfl; simp (maxSteps := 2000000) (disch := omega) only [go_sem, List.length_map, Int.reduceEq, Int.reduceNe, Nat.reduceBEq, Nat.reduceLT, Nat.reduceLeDiff, Nat.reduceAdd, Nat.reduceSub, Nat.reduceMul, Nat.reduceEqDiff, Int.reduceLT, Int.reduceLE, Int.reduceNeg, Int.reduceToNat, Int.reduceAdd, Int.reduceSub, ↓reduceIte, reduceCtorEq]
        exact fin_ret (by rfl) (by simp [subMem])
end Go.Proofs.Ytjmkgpkgagohoaa
