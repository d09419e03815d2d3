/-
  RefA: contracts of functions of the program, and what follows from them.
-/
import Derived.Test.YtjmkgpkgagohoaaTyCodec
import Derived.Test.YtjmkgpkgagohoaaCodecH
import Derived.Test.YtjmkgpkgagohoaaPlCodec
import Derived.Test.YtjmkgpkgagohoaaDk3
set_option linter.all false
namespace Go.Proofs.Ytjmkgpkgagohoaa
open Go Go.Dk
set_option linter.unusedSimpArgs false
set_option linter.unusedVariables false
set_option maxRecDepth 10000
set_option maxHeartbeats 4000000

theorem highB_length : ∀ (n m : Nat), (highB n m).length = m
  | n, 0 => rfl
  | n, m + 1 => by simp [highB, highB_length n m]
theorem take_high (n m : Nat) : (highB n m).take m = highB n m := List.take_of_length_le (by rw [highB_length]; exact Nat.le_refl _)

theorem rNumber (n : Nat) (m : Nat) (hm : m ≤ 8) (hn : n < 18446744073709551616) :
    (Con.mk [.v (.int .u64 n), .v (.int .i64 m)] [] [] (.slc 28 1 0 m) [(28, .cells (cellsB (highB n m)))]).ok Try.prog 54 := by
  refine ⟨?_, by simp [Con.wf, ids, inA, inM, inB, inL_nil, inL_cons, inL_append, inL_cellsB, inL_dat]⟩
  refine con_of_ev true [0, 1, 4, 5, 6, 7, 8, 12, 18] 30 Try.func54 (code := _) rfl rfl Try.ntmps54 (by simp) [.tmp 4] (by rw [Try.results54]) ?_
  simp (maxSteps := 2000000) (disch := omega) only [go_sem, Int.reduceEq, Int.reduceNe, Nat.reduceBEq, Nat.reduceLT, Nat.reduceLeDiff, Nat.reduceAdd, Nat.reduceSub, Nat.reduceMul, Nat.reduceEqDiff, Int.reduceLT, Int.reduceLE, Int.reduceNeg, Int.reduceToNat, Int.reduceAdd, Int.reduceSub, ↓reduceIte, reduceCtorEq]
  refine ev_loop (α := List UInt8 × Nat) (fun x => ⟨[(0, .v (.int .u64 n)), (6, .v (.int .i64 ((x.2 : Int) - 1))), (5, .slc 28 1 0 x.1.length)], [(28, .cells (cellsB x.1))]⟩)
    (fun x => x.1 ++ highB n x.2 = highB n m ∧ x.2 ≤ m ∧ x.1.length + x.2 = m) (fun x => x.2) ([], m) ⟨rfl, Nat.le_refl _, by simp⟩
    (Weak.trans (weak_nil 5 28 1 rfl rfl rfl rfl) (weak_sub (by simp [envSub, Dk.look, putE, eraseE]) (by simp [subMem, Dk.find, cellsB_nil]))) ?_
  rintro ⟨cs, k⟩ ⟨h1, h2, h3⟩
  dsimp only at h1 h2 h3
  simp (maxSteps := 2000000) (disch := omega) only [go_sem, Int.reduceEq, Int.reduceNe, Nat.reduceBEq, Nat.reduceLT, Nat.reduceLeDiff, Nat.reduceAdd, Nat.reduceSub, Nat.reduceMul, Nat.reduceEqDiff, Int.reduceLT, Int.reduceLE, Int.reduceNeg, Int.reduceToNat, Int.reduceAdd, Int.reduceSub, ↓reduceIte, reduceCtorEq]
  refine awIf2_dec (fun hk => ?_) (fun hk => ?_)
  · obtain ⟨k, rfl⟩ : ∃ q, k = q + 1 := ⟨k - 1, by omega⟩
    have e0 : ((k + 1 : Nat) : Int) - 1 = k := by omega
    rw [e0]
    simp (maxSteps := 2000000) (disch := omega) only [go_sem, Int.reduceEq, Int.reduceNe, Nat.reduceBEq, Nat.reduceLT, Nat.reduceLeDiff, Nat.reduceAdd, Nat.reduceSub, Nat.reduceMul, Nat.reduceEqDiff, Int.reduceLT, Int.reduceLE, Int.reduceNeg, Int.reduceToNat, Int.reduceAdd, Int.reduceSub, ↓reduceIte, reduceCtorEq]
    refine ev_loop (α := Nat) (fun j => ⟨[(0, .v (.int .u64 n)), (6, .v (.int .i64 (k : Int))), (5, .slc 28 1 0 cs.length), (8, .v (.int .i64 (j : Int))), (7, .v (.int .u64 ((n / 256 ^ j : Nat) : Int)))], [(28, .cells (cellsB cs))]⟩)
      (fun j => j ≤ k) (fun j => k - j) 0 (Nat.zero_le _) (weak_sub (by simp [envSub, Dk.look]) (by simp [subMem, Dk.find])) ?_
    intro j hj
    have hq : n / 256 ^ j ≤ n := Nat.div_le_self _ _
    generalize hqq : n / 256 ^ j = q at *
    simp (maxSteps := 2000000) (disch := omega) only [go_sem, Int.reduceEq, Int.reduceNe, Nat.reduceBEq, Nat.reduceLT, Nat.reduceLeDiff, Nat.reduceAdd, Nat.reduceSub, Nat.reduceMul, Nat.reduceEqDiff, Int.reduceLT, Int.reduceLE, Int.reduceNeg, Int.reduceToNat, Int.reduceAdd, Int.reduceSub, ↓reduceIte, reduceCtorEq]
    refine awIf2_dec (fun hjk => ?_) (fun hjk => ?_)
    · simp (maxSteps := 2000000) (disch := omega) only [go_sem, Int.reduceEq, Int.reduceNe, Nat.reduceBEq, Nat.reduceLT, Nat.reduceLeDiff, Nat.reduceAdd, Nat.reduceSub, Nat.reduceMul, Nat.reduceEqDiff, Int.reduceLT, Int.reduceLE, Int.reduceNeg, Int.reduceToNat, Int.reduceAdd, Int.reduceSub, ↓reduceIte, reduceCtorEq]
      refine ⟨j + 1, by omega, by omega, ?_⟩
      rw [wrapU (n := (q : Int).tdiv 256) (by have : (q : Int).tdiv 256 = ((q / 256 : Nat) : Int) := rfl; omega), show (q : Int).tdiv 256 = ((q / 256 : Nat) : Int) from rfl, show q / 256 = n / 256 ^ (j + 1) from by rw [← hqq, Nat.div_div_eq_div_mul, Nat.pow_succ]]
      exact weak_sub (by simp [envSub, Dk.look]) (by simp [subMem, Dk.find])
    · obtain rfl : j = k := by omega
      simp (maxSteps := 2000000) (disch := omega) only [go_sem, Int.reduceEq, Int.reduceNe, Nat.reduceBEq, Nat.reduceLT, Nat.reduceLeDiff, Nat.reduceAdd, Nat.reduceSub, Nat.reduceMul, Nat.reduceEqDiff, Int.reduceLT, Int.reduceLE, Int.reduceNeg, Int.reduceToNat, Int.reduceAdd, Int.reduceSub, ↓reduceIte, reduceCtorEq]
      refine ⟨(cs ++ [UInt8.ofNat (n / 2 ^ (8 * j))], j), ⟨by simpa [highB] using h1, by omega, by simp; omega⟩, by omega, ?_⟩
      have e1 : 2 ^ (8 * j) = 256 ^ j := by rw [Nat.pow_mul]
      have e2 : IntKind.u8.wrap ((q : Int).tmod 256) = ((UInt8.ofNat q).toNat : Int) := by
        rw [show (q : Int).tmod 256 = ((q % 256 : Nat) : Int) from rfl, wrapB, UInt8.toNat_ofNat', UInt8.toNat_ofNat']; simp
      rw [e1, hqq, e2, List.take_length, cellsB_snoc]
      exact weak_sub (by simp [envSub, Dk.look]) (by simp [subMem, Dk.find])
  · obtain rfl : k = 0 := by omega
    simp only [highB, List.append_nil] at h1
    subst h1
    rw [Nat.add_zero] at h3
    simp (maxSteps := 2000000) (disch := omega) only [go_sem, Int.reduceEq, Int.reduceNe, Nat.reduceBEq, Nat.reduceLT, Nat.reduceLeDiff, Nat.reduceAdd, Nat.reduceSub, Nat.reduceMul, Nat.reduceEqDiff, Int.reduceLT, Int.reduceLE, Int.reduceNeg, Int.reduceToNat, Int.reduceAdd, Int.reduceSub, ↓reduceIte, reduceCtorEq, h3]
    exact fin_ret (by rfl) (by simp [subMem, Dk.find])

theorem rVar (n : Nat) (hn : n < 18446744073709551616) :
    (Con.mk [.v (.int .u64 n)] [] [] (.slc 16 1 0 (varB n).length) [(16, .cells (cellsB (varB n)))]).ok Try.prog 32 := by
  refine ⟨?_, by simp [Con.wf, ids, inA, inM, inB, inL_nil, inL_cons, inL_append, inL_cellsB, inL_dat]⟩
  refine con_of_ev true [0, 2, 3, 4, 5, 7, 12, 14] 23 Try.func32 (code := _) rfl rfl Try.ntmps32 (by simp) [.tmp 2] (by rw [Try.results32]) ?_
  simp (maxSteps := 2000000) (disch := omega) only [go_sem, Int.reduceEq, Int.reduceNe, Nat.reduceBEq, Nat.reduceLT, Nat.reduceLeDiff, Nat.reduceAdd, Nat.reduceSub, Nat.reduceMul, Nat.reduceEqDiff, Int.reduceLT, Int.reduceLE, Int.reduceNeg, Int.reduceToNat, Int.reduceAdd, Int.reduceSub, ↓reduceIte, reduceCtorEq]
  refine awIf2_dec (fun h1 => ?_) (fun h1 => ?_)
  · simp (maxSteps := 2000000) (disch := omega) only [go_sem, Int.reduceEq, Int.reduceNe, Nat.reduceBEq, Nat.reduceLT, Nat.reduceLeDiff, Nat.reduceAdd, Nat.reduceSub, Nat.reduceMul, Nat.reduceEqDiff, Int.reduceLT, Int.reduceLE, Int.reduceNeg, Int.reduceToNat, Int.reduceAdd, Int.reduceSub, ↓reduceIte, reduceCtorEq]
    rw [show varB n = [UInt8.ofNat n] from by simp [varB, show n < 253 from by omega]]
    refine Fin_weak (weak_swap 10 16 ⟨rfl, rfl⟩ ⟨rfl, rfl⟩) (fin_ret (by rfl) ?_)
    have e : ((UInt8.ofNat n).toNat : Int) = n := by rw [UInt8.toNat_ofNat']; omega
    simp only [subMem, Dk.find, renMem, renB, renL, AV.ren, mOf, cellsB, cB, List.map_cons, List.map_nil, e]; simp
  · simp (maxSteps := 2000000) (disch := omega) only [go_sem, Int.reduceEq, Int.reduceNe, Nat.reduceBEq, Nat.reduceLT, Nat.reduceLeDiff, Nat.reduceAdd, Nat.reduceSub, Nat.reduceMul, Nat.reduceEqDiff, Int.reduceLT, Int.reduceLE, Int.reduceNeg, Int.reduceToNat, Int.reduceAdd, Int.reduceSub, ↓reduceIte, reduceCtorEq]
    by_cases h2 : n ≤ 65535
    · have h2' : ¬ (65536 : Int) ≤ n := by omega
      have h3' : ¬ (4294967296 : Int) ≤ n := by omega
      rw [show varB n = 253 :: highB n 2 from by simp [varB, show ¬ n < 253 from by omega, h2]]
      simp (maxSteps := 2000000) (disch := omega) only [go_sem, Int.reduceEq, Int.reduceNe, Nat.reduceBEq, Nat.reduceLT, Nat.reduceLeDiff, Nat.reduceAdd, Nat.reduceSub, Nat.reduceMul, Nat.reduceEqDiff, Int.reduceLT, Int.reduceLE, Int.reduceNeg, Int.reduceToNat, Int.reduceAdd, Int.reduceSub, ↓reduceIte, reduceCtorEq, h2', h3']
      refine awCall_con [(28, 100)] [] (rNumber n 2 (by omega) hn) ?_ ?_ ?_ ?_ ?_; (focus kernel_rfl); (focus exact (.inl rfl)); (focus (simp [go_sem]; done)); (focus (simp [go_sem]; done)); rintro _ rfl; simp (maxSteps := 2000000) (disch := omega) only [go_sem, Int.reduceEq, Int.reduceNe, Nat.reduceBEq, Nat.reduceLT, Nat.reduceLeDiff, Nat.reduceAdd, Nat.reduceSub, Nat.reduceMul, Nat.reduceEqDiff, Int.reduceLT, Int.reduceLE, Int.reduceNeg, Int.reduceToNat, Int.reduceAdd, Int.reduceSub, ↓reduceIte, reduceCtorEq]
      simp (maxSteps := 2000000) (disch := omega) only [go_sem, Int.reduceEq, Int.reduceNe, Nat.reduceBEq, Nat.reduceLT, Nat.reduceLeDiff, Nat.reduceAdd, Nat.reduceSub, Nat.reduceMul, Nat.reduceEqDiff, Int.reduceLT, Int.reduceLE, Int.reduceNeg, Int.reduceToNat, Int.reduceAdd, Int.reduceSub, ↓reduceIte, reduceCtorEq, highB_length, List.length_cons]
      exact fin_ret (by rfl) (by simp [subMem, Dk.find, cellsB_cons, take_high])
    · by_cases h3 : n ≤ 4294967295
      · have h2' : (65536 : Int) ≤ n := by omega
        have h3' : ¬ (4294967296 : Int) ≤ n := by omega
        rw [show varB n = 254 :: highB n 4 from by simp [varB, show ¬ n < 253 from by omega, h2, h3]]
        simp (maxSteps := 2000000) (disch := omega) only [go_sem, Int.reduceEq, Int.reduceNe, Nat.reduceBEq, Nat.reduceLT, Nat.reduceLeDiff, Nat.reduceAdd, Nat.reduceSub, Nat.reduceMul, Nat.reduceEqDiff, Int.reduceLT, Int.reduceLE, Int.reduceNeg, Int.reduceToNat, Int.reduceAdd, Int.reduceSub, ↓reduceIte, reduceCtorEq, h2', h3']
        refine awCall_con [(28, 100)] [] (rNumber n 4 (by omega) hn) ?_ ?_ ?_ ?_ ?_; (focus kernel_rfl); (focus exact (.inl rfl)); (focus (simp [go_sem]; done)); (focus (simp [go_sem]; done)); rintro _ rfl; simp (maxSteps := 2000000) (disch := omega) only [go_sem, Int.reduceEq, Int.reduceNe, Nat.reduceBEq, Nat.reduceLT, Nat.reduceLeDiff, Nat.reduceAdd, Nat.reduceSub, Nat.reduceMul, Nat.reduceEqDiff, Int.reduceLT, Int.reduceLE, Int.reduceNeg, Int.reduceToNat, Int.reduceAdd, Int.reduceSub, ↓reduceIte, reduceCtorEq]
        simp (maxSteps := 2000000) (disch := omega) only [go_sem, Int.reduceEq, Int.reduceNe, Nat.reduceBEq, Nat.reduceLT, Nat.reduceLeDiff, Nat.reduceAdd, Nat.reduceSub, Nat.reduceMul, Nat.reduceEqDiff, Int.reduceLT, Int.reduceLE, Int.reduceNeg, Int.reduceToNat, Int.reduceAdd, Int.reduceSub, ↓reduceIte, reduceCtorEq, highB_length, List.length_cons]
        exact fin_ret (by rfl) (by simp [subMem, Dk.find, cellsB_cons, take_high])
      · have h2' : (65536 : Int) ≤ n := by omega
        have h3' : (4294967296 : Int) ≤ n := by omega
        rw [show varB n = 255 :: highB n 8 from by simp [varB, show ¬ n < 253 from by omega, h2, h3]]
        simp (maxSteps := 2000000) (disch := omega) only [go_sem, Int.reduceEq, Int.reduceNe, Nat.reduceBEq, Nat.reduceLT, Nat.reduceLeDiff, Nat.reduceAdd, Nat.reduceSub, Nat.reduceMul, Nat.reduceEqDiff, Int.reduceLT, Int.reduceLE, Int.reduceNeg, Int.reduceToNat, Int.reduceAdd, Int.reduceSub, ↓reduceIte, reduceCtorEq, h2', h3']
        refine awCall_con [(28, 100)] [] (rNumber n 8 (by omega) hn) ?_ ?_ ?_ ?_ ?_; (focus kernel_rfl); (focus exact (.inl rfl)); (focus (simp [go_sem]; done)); (focus (simp [go_sem]; done)); rintro _ rfl; simp (maxSteps := 2000000) (disch := omega) only [go_sem, Int.reduceEq, Int.reduceNe, Nat.reduceBEq, Nat.reduceLT, Nat.reduceLeDiff, Nat.reduceAdd, Nat.reduceSub, Nat.reduceMul, Nat.reduceEqDiff, Int.reduceLT, Int.reduceLE, Int.reduceNeg, Int.reduceToNat, Int.reduceAdd, Int.reduceSub, ↓reduceIte, reduceCtorEq]
        simp (maxSteps := 2000000) (disch := omega) only [go_sem, Int.reduceEq, Int.reduceNe, Nat.reduceBEq, Nat.reduceLT, Nat.reduceLeDiff, Nat.reduceAdd, Nat.reduceSub, Nat.reduceMul, Nat.reduceEqDiff, Int.reduceLT, Int.reduceLE, Int.reduceNeg, Int.reduceToNat, Int.reduceAdd, Int.reduceSub, ↓reduceIte, reduceCtorEq, highB_length, List.length_cons]
        exact fin_ret (by rfl) (by simp [subMem, Dk.find, cellsB_cons, take_high])

theorem rText (b : List UInt8) (hl : b.length < 1000000000000) :
    (Con.mk [.imm false 1 (rowsB b)] [] [] (.slc 16 1 0 (varB b.length ++ b).length) [(16, .cells (cellsB (varB b.length ++ b)))]).ok Try.prog 33 := by
  refine ⟨?_, by simp [Con.wf, ids, inA, inM, inB, inL_nil, inL_cons, inL_append, inL_cellsB, inL_dat]⟩
  refine con_of_ev true [0, 2, 3] 12 Try.func33 (code := _) rfl rfl Try.ntmps33 (by simp) [.tmp 2] (by rw [Try.results33]) ?_
  simp (maxSteps := 2000000) (disch := omega) only [go_sem, Int.reduceEq, Int.reduceNe, Nat.reduceBEq, Nat.reduceLT, Nat.reduceLeDiff, Nat.reduceAdd, Nat.reduceSub, Nat.reduceMul, Nat.reduceEqDiff, Int.reduceLT, Int.reduceLE, Int.reduceNeg, Int.reduceToNat, Int.reduceAdd, Int.reduceSub, ↓reduceIte, reduceCtorEq]
  have hv := varB_length b.length
  refine awCall_con [] [] (rVar b.length (by omega)) ?_ ?_ ?_ ?_ ?_; (focus kernel_rfl); (focus exact (.inl rfl)); (focus (simp [go_sem]; done)); (focus (simp [go_sem]; done)); rintro _ rfl; simp (maxSteps := 2000000) (disch := omega) only [go_sem, Int.reduceEq, Int.reduceNe, Nat.reduceBEq, Nat.reduceLT, Nat.reduceLeDiff, Nat.reduceAdd, Nat.reduceSub, Nat.reduceMul, Nat.reduceEqDiff, Int.reduceLT, Int.reduceLE, Int.reduceNeg, Int.reduceToNat, Int.reduceAdd, Int.reduceSub, ↓reduceIte, reduceCtorEq]
  rw [← List.length_append, List.take_length]
  exact fin_ret (by rfl) (by simp [subMem, Dk.find])

theorem rSaid (b : List UInt8) (hl : b.length ≤ 8) :
    (Con.mk [.imm false 1 (rowsB b)] [] [] (.v (.int .u64 (numB b))) []).ok Try.prog 65 := by
  refine ⟨?_, by simp [Con.wf, ids, inA, inM, inB, inL_nil, inL_cons, inL_append, inL_cellsB, inL_dat]⟩
  refine con_of_ev true [0, 2, 3, 4, 8] 20 Try.func65 (code := _) rfl rfl Try.ntmps65 (by simp) [.tmp 2] (by rw [Try.results65]) ?_
  simp (maxSteps := 2000000) (disch := omega) only [go_sem, Int.reduceEq, Int.reduceNe, Nat.reduceBEq, Nat.reduceLT, Nat.reduceLeDiff, Nat.reduceAdd, Nat.reduceSub, Nat.reduceMul, Nat.reduceEqDiff, Int.reduceLT, Int.reduceLE, Int.reduceNeg, Int.reduceToNat, Int.reduceAdd, Int.reduceSub, ↓reduceIte, reduceCtorEq]
  refine ev_loop (α := Nat) (fun i => ⟨[(0, .imm false 1 (rowsB b)), (3, .v (.int .u64 (numB (b.take i)))), (4, .v (.int .i64 (i : Int)))], []⟩)
    (fun i => i ≤ b.length) (fun i => b.length - i) 0 (Nat.zero_le _) (weak_sub (by simp [envSub, Dk.look, numB]) (by simp [subMem, Dk.find])) ?_
  intro i hi
  simp (maxSteps := 2000000) (disch := omega) only [go_sem, Int.reduceEq, Int.reduceNe, Nat.reduceBEq, Nat.reduceLT, Nat.reduceLeDiff, Nat.reduceAdd, Nat.reduceSub, Nat.reduceMul, Nat.reduceEqDiff, Int.reduceLT, Int.reduceLE, Int.reduceNeg, Int.reduceToNat, Int.reduceAdd, Int.reduceSub, ↓reduceIte, reduceCtorEq]
  by_cases h : i < b.length
  · have h' : (i : Int) < b.length := by omega
    have hg : b[i]? = some b[i] := List.getElem?_eq_getElem h
    have hb : numB (b.take i) < 72057594037927936 := by
      refine Nat.lt_of_lt_of_le (numB_lt _) ?_
      have : (b.take i).length ≤ 7 := by simp; omega
      exact Nat.le_trans (Nat.pow_le_pow_right (by decide) this) (by decide)
    simp (maxSteps := 2000000) (disch := omega) only [go_sem, Int.reduceEq, Int.reduceNe, Nat.reduceBEq, Nat.reduceLT, Nat.reduceLeDiff, Nat.reduceAdd, Nat.reduceSub, Nat.reduceMul, Nat.reduceEqDiff, Int.reduceLT, Int.reduceLE, Int.reduceNeg, Int.reduceToNat, Int.reduceAdd, Int.reduceSub, ↓reduceIte, reduceCtorEq, h', hg]
    refine ⟨i + 1, h, by omega, ?_⟩
    have e2 : b.take (i + 1) = b.take i ++ [b[i]] := by rw [List.take_add_one, hg]; rfl
    have e3 := b[i].toNat_lt
    rw [wrapU (n := ((b[i].toNat : Nat) : Int)) (by omega), wrapU (by omega), e2, numB_snoc]
    exact weak_sub (by simp [envSub, Dk.look, Int.mul_comm]) (by simp [subMem, Dk.find])
  · have h' : ¬ (i : Int) < b.length := by omega
    obtain rfl : i = b.length := by omega
    simp (maxSteps := 2000000) (disch := omega) only [go_sem, Int.reduceEq, Int.reduceNe, Nat.reduceBEq, Nat.reduceLT, Nat.reduceLeDiff, Nat.reduceAdd, Nat.reduceSub, Nat.reduceMul, Nat.reduceEqDiff, Int.reduceLT, Int.reduceLE, Int.reduceNeg, Int.reduceToNat, Int.reduceAdd, Int.reduceSub, ↓reduceIte, reduceCtorEq, h']
    rw [List.take_length]
    exact fin_ret (by rfl) (by simp [subMem, Dk.find])
end Go.Proofs.Ytjmkgpkgagohoaa
