/-
  CodecD: contracts of functions of the program, and what follows from them.
-/
import Derived.Test.YtjmkgpkgagohoaaTyCodec
import Derived.Test.YtjmkgpkgagohoaaCodecC
set_option linter.all false
namespace Go.Proofs.Ytjmkgpkgagohoaa
open Go Go.Dk
set_option linter.unusedSimpArgs false
set_option linter.unusedVariables false
set_option maxRecDepth 10000

theorem Reader_take (rs : List UInt8) (e : Int) (n : Nat) (hl : rs.length < 1000000000000) (hn : n < 9223372036854775808) :
    (Con.mk [.ptr 1000 0, .v (.int .i64 n)] [(1000, .cells [.imm false 1 (rowsB (rs)), .v (.int .i64 (e))])] [1000] (.tup [.imm false 1 (rowsB ((takeR n (rs, e)).1.getD [])), .v (.bool (takeR n (rs, e)).1.isSome)])
      [(1000, .cells [.imm false 1 (rowsB ((takeR n (rs, e)).2.1)), .v (.int .i64 ((takeR n (rs, e)).2.2))])]).ok Try.prog 66 := by
  refine ⟨?_, by simp [Con.wf, ids, inA, inM, inB, inL_nil, inL_cons, inL_append, inL_cellsB, inL_dat]⟩
  by_cases h1 : e = 0
  · subst h1
    by_cases h2 : rs.length < n
    · have h2' : (rs.length : Int) < n := by omega
      rw [show takeR n (rs, 0) = (none, (rs, 10)) from by simp [takeR, h2]]
      refine con_of_ev true [0, 1, 4, 5, 6, 20, 28] 45 Try.func66 (code := _) rfl rfl Try.ntmps66 (by simp) [.tmp 4, .tmp 5] (by rw [Try.results66]) ?_
      simp (maxSteps := 2000000) (disch := omega) only [go_sem, Int.reduceEq, Int.reduceNe, Nat.reduceBEq, Nat.reduceLT, Nat.reduceLeDiff, Nat.reduceAdd, Nat.reduceSub, Nat.reduceMul, Nat.reduceEqDiff, Int.reduceLT, Int.reduceLE, Int.reduceNeg, Int.reduceToNat, Int.reduceAdd, Int.reduceSub, ↓reduceIte, reduceCtorEq, h2']
      exact Fin_weak (weak_put 4 (.imm false 1 []) fun E u h => den_nil_imm h) (fin_ret (by rfl) (by simp [subMem, Dk.find]))
    · have h2' : ¬ (rs.length : Int) < n := by omega
      rw [show takeR n (rs, 0) = (some (rs.take n), (rs.drop n, 0)) from by simp [takeR, h2]]
      refine con_of_ev true [0, 1, 4, 5, 6, 20, 28] 45 Try.func66 (code := _) rfl rfl Try.ntmps66 (by simp) [.tmp 4, .tmp 5] (by rw [Try.results66]) ?_
      simp (maxSteps := 2000000) (disch := omega) only [go_sem, Int.reduceEq, Int.reduceNe, Nat.reduceBEq, Nat.reduceLT, Nat.reduceLeDiff, Nat.reduceAdd, Nat.reduceSub, Nat.reduceMul, Nat.reduceEqDiff, Int.reduceLT, Int.reduceLE, Int.reduceNeg, Int.reduceToNat, Int.reduceAdd, Int.reduceSub, ↓reduceIte, reduceCtorEq, h2']
      rw [Nat.sub_zero, show List.take (rs.length - n) (List.drop n rs) = List.drop n rs from List.take_of_length_le (by simp)]
      exact fin_ret (by rfl) (by simp [subMem, Dk.find])
  · rw [show takeR n (rs, e) = (none, (rs, e)) from by simp [takeR, h1]]
    refine con_of_ev true [0, 1, 4, 5, 6, 20, 28] 45 Try.func66 (code := _) rfl rfl Try.ntmps66 (by simp) [.tmp 4, .tmp 5] (by rw [Try.results66]) ?_
    simp (maxSteps := 2000000) (disch := omega) only [go_sem, Int.reduceEq, Int.reduceNe, Nat.reduceBEq, Nat.reduceLT, Nat.reduceLeDiff, Nat.reduceAdd, Nat.reduceSub, Nat.reduceMul, Nat.reduceEqDiff, Int.reduceLT, Int.reduceLE, Int.reduceNeg, Int.reduceToNat, Int.reduceAdd, Int.reduceSub, ↓reduceIte, reduceCtorEq, h1]
    exact Fin_weak (weak_put 4 (.imm false 1 []) fun E u h => den_nil_imm h) (fin_ret (by rfl) (by simp [subMem, Dk.find]))
theorem Reader_high (rs : List UInt8) (e : Int) (n : Nat) (hl : rs.length < 1000000000000) (hn : n ≤ 8) :
    (Con.mk [.ptr 1000 0, .v (.int .i64 n)] [(1000, .cells [.imm false 1 (rowsB (rs)), .v (.int .i64 (e))])] [1000] (.v (.int .u64 (numB ((takeR n (rs, e)).1.getD [])))) [(1000, .cells [.imm false 1 (rowsB ((takeR n (rs, e)).2.1)), .v (.int .i64 ((takeR n (rs, e)).2.2))])]).ok Try.prog 48 := by
  refine ⟨?_, by simp [Con.wf, ids, inA, inM, inB, inL_nil, inL_cons, inL_append, inL_cellsB, inL_dat]⟩
  have hlen : ((takeR n (rs, e)).1.getD []).length ≤ 8 := by
    simp only [takeR]; split <;> (try split) <;> simp; omega
  generalize hl' : (takeR n (rs, e)).1.getD [] = l at *
  refine con_of_ev true [0, 1, 4, 5, 7, 9, 16, 17, 18, 19] 29 Try.func48 (code := _) rfl rfl Try.ntmps48 (by simp) [.tmp 4] (by rw [Try.results48]) ?_
  simp (maxSteps := 2000000) (disch := omega) only [go_sem, Int.reduceEq, Int.reduceNe, Nat.reduceBEq, Nat.reduceLT, Nat.reduceLeDiff, Nat.reduceAdd, Nat.reduceSub, Nat.reduceMul, Nat.reduceEqDiff, Int.reduceLT, Int.reduceLE, Int.reduceNeg, Int.reduceToNat, Int.reduceAdd, Int.reduceSub, ↓reduceIte, reduceCtorEq]
  refine awCall_con [] [] (Reader_take rs e n hl (by omega)) (by kernel_rfl) (.inl rfl) (by simp [go_sem]) (by simp [go_sem]) ?_; rintro _ rfl; simp (maxSteps := 2000000) (disch := omega) only [go_sem, Int.reduceEq, Int.reduceNe, Nat.reduceBEq, Nat.reduceLT, Nat.reduceLeDiff, Nat.reduceAdd, Nat.reduceSub, Nat.reduceMul, Nat.reduceEqDiff, Int.reduceLT, Int.reduceLE, Int.reduceNeg, Int.reduceToNat, Int.reduceAdd, Int.reduceSub, ↓reduceIte, reduceCtorEq]
  rw [hl']
  refine ev_loop (α := Nat) (fun i => ⟨[(18, .v (.int .i64 (i : Int))), (17, .v (.int .i64 l.length)), (16, .imm false 1 (rowsB l)), (7, .v (.int .u64 (numB (l.take i)))), (0, .ptr 1000 0)], [(1000, .cells [.imm false 1 (rowsB ((takeR n (rs, e)).2.1)), .v (.int .i64 ((takeR n (rs, e)).2.2))])]⟩)
    (fun i => i ≤ l.length) (fun i => l.length - i) 0 (Nat.zero_le _) (weak_sub (by simp [envSub, Dk.look, numB]) (by simp [subMem, Dk.find])) ?_
  intro i hi
  simp (maxSteps := 2000000) (disch := omega) only [go_sem, Int.reduceEq, Int.reduceNe, Nat.reduceBEq, Nat.reduceLT, Nat.reduceLeDiff, Nat.reduceAdd, Nat.reduceSub, Nat.reduceMul, Nat.reduceEqDiff, Int.reduceLT, Int.reduceLE, Int.reduceNeg, Int.reduceToNat, Int.reduceAdd, Int.reduceSub, ↓reduceIte, reduceCtorEq]
  by_cases h : i < l.length
  · have h' : (i : Int) < l.length := by omega
    have hg : l[i]? = some l[i] := List.getElem?_eq_getElem h
    have hb : numB (l.take i) < 72057594037927936 := by
      refine Nat.lt_of_lt_of_le (numB_lt _) ?_
      have : (l.take i).length ≤ 7 := by simp; omega
      exact Nat.le_trans (Nat.pow_le_pow_right (by decide) this) (by decide)
    simp (maxSteps := 2000000) (disch := omega) only [go_sem, Int.reduceEq, Int.reduceNe, Nat.reduceBEq, Nat.reduceLT, Nat.reduceLeDiff, Nat.reduceAdd, Nat.reduceSub, Nat.reduceMul, Nat.reduceEqDiff, Int.reduceLT, Int.reduceLE, Int.reduceNeg, Int.reduceToNat, Int.reduceAdd, Int.reduceSub, ↓reduceIte, reduceCtorEq, h', hg]
    refine ⟨i + 1, h, by omega, ?_⟩
    have e1 : (2 : Int) ^ (min 8 64) = 256 := by rfl
    have e2 : l.take (i + 1) = l.take i ++ [l[i]] := by rw [List.take_add_one, hg]; rfl
    have e3 := l[i].toNat_lt
    rw [e1, wrapU (n := (numB (l.take i) : Int) * 256) (by omega), wrapU (n := ((l[i].toNat : Nat) : Int)) (by omega), e2, numB_snoc]
    erw [or_byte' _ _ hb (by omega)]
    exact weak_sub (by simp [envSub, Dk.look]) (by simp [subMem, Dk.find])
  · have h' : ¬ (i : Int) < l.length := by omega
    obtain rfl : i = l.length := by omega
    simp (maxSteps := 2000000) (disch := omega) only [go_sem, Int.reduceEq, Int.reduceNe, Nat.reduceBEq, Nat.reduceLT, Nat.reduceLeDiff, Nat.reduceAdd, Nat.reduceSub, Nat.reduceMul, Nat.reduceEqDiff, Int.reduceLT, Int.reduceLE, Int.reduceNeg, Int.reduceToNat, Int.reduceAdd, Int.reduceSub, ↓reduceIte, reduceCtorEq, h']
    rw [List.take_length]
    exact fin_ret (by rfl) (by simp [subMem, Dk.find])
end Go.Proofs.Ytjmkgpkgagohoaa
