/-
  CodecQ: contracts of functions of the program, and what follows from them.
-/
import Derived.Test.YtjmkgpkgagohoaaTyCodec
import Derived.Test.YtjmkgpkgagohoaaCodecJ
import Derived.Test.YtjmkgpkgagohoaaPlCrc
set_option linter.all false
namespace Go.Proofs.Ytjmkgpkgagohoaa
open Go Go.Dk
set_option linter.unusedSimpArgs false
set_option linter.unusedVariables false
set_option maxRecDepth 10000
set_option maxHeartbeats 4000000
set_option pp.deepTerms true
set_option pp.maxSteps 1000000

theorem crc_take (b : List UInt8) (i : Nat) (x : UInt8) (h : b[i]? = some x) : crcC (b.take (i + 1)) = byteC (crcC (b.take i)) x := by
  rw [List.take_add_one, h]; simp [crcC]

theorem rSum (b : List UInt8) (hl : b.length < 1000000000000) :
    (Con.mk [.imm false 1 (rowsB b)] [] [] (.v (.int .u32 ((sumC b).toNat : Nat))) []).ok Try.prog 38 := by
  refine ⟨?_, by simp [Con.wf, ids, inA, inM, inB, inL_nil, inL_cons, inL_append, inL_cellsB, inL_dat]⟩
  refine con_of_ev true [0, 2, 3, 4, 5, 9, 20, 25] 33 Try.func38 (code := _) rfl rfl Try.ntmps38 (by simp) [.tmp 2] (by rw [Try.results38]) ?_
  simp (maxSteps := 2000000) (disch := omega) only [go_sem, List.length_map, Int.reduceEq, Int.reduceNe, Nat.reduceBEq, Nat.reduceLT, Nat.reduceLeDiff, Nat.reduceAdd, Nat.reduceSub, Nat.reduceMul, Nat.reduceEqDiff, Int.reduceLT, Int.reduceLE, Int.reduceNeg, Int.reduceToNat, Int.reduceAdd, Int.reduceSub, ↓reduceIte, reduceCtorEq]
  refine ev_loop (α := Nat) (fun i => ⟨[(0, .imm false 1 (rowsB b)), (3, .v (.int .u32 (((crcC (b.take i)).toNat : Nat) : Int))), (4, .v (.int .i64 (i : Int)))], []⟩)
    (fun i => i ≤ b.length) (fun i => b.length - i) 0 (Nat.zero_le _) (weak_sub (by simp [envSub, Dk.look, crcC]) (by simp [subMem, Dk.find])) ?_
  intro i hi
  by_cases h : i < b.length
  · have h' : (i : Int) < b.length := by omega
    have hg : b[i]? = some b[i] := List.getElem?_eq_getElem h
    have hc := crc_take b i _ hg
    simp (maxSteps := 2000000) (disch := omega) only [go_sem, List.length_map, Int.reduceEq, Int.reduceNe, Nat.reduceBEq, Nat.reduceLT, Nat.reduceLeDiff, Nat.reduceAdd, Nat.reduceSub, Nat.reduceMul, Nat.reduceEqDiff, Int.reduceLT, Int.reduceLE, Int.reduceNeg, Int.reduceToNat, Int.reduceAdd, Int.reduceSub, ↓reduceIte, reduceCtorEq, h', hg]
    generalize crcC (b.take i) = c at hc ⊢
    have hbt := b[i].toNat_lt
    rw [wrap32 (n := ((b[i].toNat : Nat) : Int)) (by omega), byte_val b[i]]
    erw [ofI, ofI]
    refine ev_loop (α := Nat) (fun k => ⟨[(0, .imm false 1 (rowsB b)), (3, .v (.int .u32 (((stepsC k (c ^^^ inC b[i])).toNat : Nat) : Int))), (4, .v (.int .i64 (i : Int))), (5, .v (.int .i64 (k : Int)))], []⟩)
      (fun k => k ≤ 8) (fun k => 8 - k) 0 (Nat.zero_le _) (weak_sub (by simp [envSub, Dk.look, stepsC, -BitVec.toNat_xor]; try rfl) (by simp [subMem, Dk.find])) ?_
    intro k hk
    by_cases h2 : k < 8
    · have h2' : (k : Int) < 8 := by omega
      simp (maxSteps := 2000000) (disch := omega) only [go_sem, List.length_map, Int.reduceEq, Int.reduceNe, Nat.reduceBEq, Nat.reduceLT, Nat.reduceLeDiff, Nat.reduceAdd, Nat.reduceSub, Nat.reduceMul, Nat.reduceEqDiff, Int.reduceLT, Int.reduceLE, Int.reduceNeg, Int.reduceToNat, Int.reduceAdd, Int.reduceSub, ↓reduceIte, reduceCtorEq, h2']
      refine awIf2_dec (fun g => ?_) (fun g => ?_)
      · rw [odd_iff] at g
        have e : stepsC (k + 1) (c ^^^ inC b[i]) = (stepsC k (c ^^^ inC b[i]) >>> 1) ^^^ polyC := by rw [stepsC, stepC, if_pos g]
        simp (maxSteps := 2000000) (disch := omega) only [go_sem, List.length_map, Int.reduceEq, Int.reduceNe, Nat.reduceBEq, Nat.reduceLT, Nat.reduceLeDiff, Nat.reduceAdd, Nat.reduceSub, Nat.reduceMul, Nat.reduceEqDiff, Int.reduceLT, Int.reduceLE, Int.reduceNeg, Int.reduceToNat, Int.reduceAdd, Int.reduceSub, ↓reduceIte, reduceCtorEq]
        rw [half_val]
        refine ⟨k + 1, h2, by omega, ?_⟩
        rw [e]
        erw [ofI]
        exact weak_sub (by simp [envSub, Dk.look, -BitVec.toNat_xor]; try rfl) (by simp [subMem, Dk.find])
      · rw [odd_iff] at g
        have e : stepsC (k + 1) (c ^^^ inC b[i]) = stepsC k (c ^^^ inC b[i]) >>> 1 := by rw [stepsC, stepC, if_neg g]
        simp (maxSteps := 2000000) (disch := omega) only [go_sem, List.length_map, Int.reduceEq, Int.reduceNe, Nat.reduceBEq, Nat.reduceLT, Nat.reduceLeDiff, Nat.reduceAdd, Nat.reduceSub, Nat.reduceMul, Nat.reduceEqDiff, Int.reduceLT, Int.reduceLE, Int.reduceNeg, Int.reduceToNat, Int.reduceAdd, Int.reduceSub, ↓reduceIte, reduceCtorEq]
        rw [half_val]
        refine ⟨k + 1, h2, by omega, ?_⟩
        rw [e]
        exact weak_sub (by simp [envSub, Dk.look]) (by simp [subMem, Dk.find])
    · obtain rfl : k = 8 := by omega
      simp (maxSteps := 2000000) (disch := omega) only [go_sem, List.length_map, Int.reduceEq, Int.reduceNe, Nat.reduceBEq, Nat.reduceLT, Nat.reduceLeDiff, Nat.reduceAdd, Nat.reduceSub, Nat.reduceMul, Nat.reduceEqDiff, Int.reduceLT, Int.reduceLE, Int.reduceNeg, Int.reduceToNat, Int.reduceAdd, Int.reduceSub, ↓reduceIte, reduceCtorEq]
      refine ⟨i + 1, h, by omega, ?_⟩
      rw [hc]
      exact weak_sub (by simp [envSub, Dk.look, byteC]) (by simp [subMem, Dk.find])
  · obtain rfl : i = b.length := by omega
    have h' : ¬ (b.length : Int) < b.length := by omega
    simp (maxSteps := 2000000) (disch := omega) only [go_sem, List.length_map, Int.reduceEq, Int.reduceNe, Nat.reduceBEq, Nat.reduceLT, Nat.reduceLeDiff, Nat.reduceAdd, Nat.reduceSub, Nat.reduceMul, Nat.reduceEqDiff, Int.reduceLT, Int.reduceLE, Int.reduceNeg, Int.reduceToNat, Int.reduceAdd, Int.reduceSub, ↓reduceIte, reduceCtorEq, h']
    rw [List.take_length]
    erw [ofI]
    exact fin_ret (by rfl) (by simp [subMem, Dk.find])
end Go.Proofs.Ytjmkgpkgagohoaa
