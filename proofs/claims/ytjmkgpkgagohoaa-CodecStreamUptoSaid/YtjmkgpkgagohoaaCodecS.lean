/-
  CodecS: contracts of functions of the program, and what follows from them.
-/
import Derived.Test.YtjmkgpkgagohoaaTyCodec
import Derived.Test.YtjmkgpkgagohoaaCodecR
set_option linter.all false
namespace Go.Proofs.Ytjmkgpkgagohoaa
open Go Go.Dk
set_option linter.unusedSimpArgs false
set_option linter.unusedVariables false
set_option maxRecDepth 10000
set_option maxHeartbeats 4000000
set_option pp.deepTerms true
set_option pp.maxSteps 1000000

theorem lit_sum : ((sumC [49, 50, 51, 52, 53, 54, 55, 56, 57]).toNat : Int) = 3421780262 := by decide +kernel

theorem flip_val (x : UInt8) (j : Nat) (hj : j < 8) : ∃ c : UInt8, (BitVec.ofInt 8 (x.toNat : Int) ^^^ BitVec.ofInt 8 (IntKind.u8.wrap (1 * 2 ^ min j 8))).toNat = c.toNat ∧ c ≠ x := by
  refine ⟨UInt8.ofNat (BitVec.ofInt 8 (x.toNat : Int) ^^^ BitVec.ofInt 8 (IntKind.u8.wrap (1 * 2 ^ min j 8))).toNat, ?_, fun h => ?_⟩
  · rw [UInt8.toNat_ofNat', Nat.mod_eq_of_lt (BitVec.isLt _)]
  · have h1 := congrArg UInt8.toNat h
    rw [UInt8.toNat_ofNat', Nat.mod_eq_of_lt (BitVec.isLt _)] at h1
    have h2 : BitVec.ofInt 8 (x.toNat : Int) ^^^ BitVec.ofInt 8 (IntKind.u8.wrap (1 * 2 ^ min j 8)) = BitVec.ofInt 8 (x.toNat : Int) ^^^ 0#8 := by
      rw [BitVec.xor_zero]
      apply BitVec.eq_of_toNat_eq
      rw [h1, BitVec.toNat_ofInt]
      have := x.toNat_lt
      omega
    have h3 := (BitVec.xor_right_inj _).1 h2
    revert h3
    match j, hj with
    | 0, _ => decide
    | 1, _ => decide
    | 2, _ => decide
    | 3, _ => decide
    | 4, _ => decide
    | 5, _ => decide
    | 6, _ => decide
    | 7, _ => decide

theorem CodecSums (b : List UInt8) (at_ : Int) (hl : b.length < 100000000000) (ha : -9223372036854775808 ≤ at_ ∧ at_ ≤ 9223372036854775807) :
    (Con.mk [.imm false 1 (rowsB b), .v (.int .i64 at_)] [] [] (.v (.bool true)) []).ok Try.prog 9 := by
  refine ⟨?_, by simp [Con.wf, ids, inA, inM, inB, inL_nil, inL_cons, inL_append, inL_cellsB, inL_dat]⟩
  have hlit := lit_sum
  refine con_of_ev true [0, 1, 4, 5, 6, 22, 31] 51 Try.func9 (code := _) rfl rfl Try.ntmps9 (by simp) [.tmp 4] (by rw [Try.results9]) ?_
  simp (maxSteps := 2000000) (disch := omega) only [go_sem, List.length_map, Int.reduceEq, Int.reduceNe, Nat.reduceBEq, Nat.reduceLT, Nat.reduceLeDiff, Nat.reduceAdd, Nat.reduceSub, Nat.reduceMul, Nat.reduceEqDiff, Int.reduceLT, Int.reduceLE, Int.reduceNeg, Int.reduceToNat, Int.reduceAdd, Int.reduceSub, ↓reduceIte, reduceCtorEq]
  refine awCall_con [] [] (Sum b (by omega)) ?_ ?_ ?_ ?_ ?_; (focus kernel_rfl); (focus exact (.inl rfl)); (focus (simp [go_sem]; done)); (focus (simp [go_sem]; done)); rintro _ rfl; simp (maxSteps := 2000000) (disch := omega) only [go_sem, List.length_map, Int.reduceEq, Int.reduceNe, Nat.reduceBEq, Nat.reduceLT, Nat.reduceLeDiff, Nat.reduceAdd, Nat.reduceSub, Nat.reduceMul, Nat.reduceEqDiff, Int.reduceLT, Int.reduceLE, Int.reduceNeg, Int.reduceToNat, Int.reduceAdd, Int.reduceSub, ↓reduceIte, reduceCtorEq]
  refine awCall_con [] [] (alive) ?_ ?_ ?_ ?_ ?_; (focus kernel_rfl); (focus exact (.inl rfl)); (focus (simp [go_sem]; done)); (focus (simp [go_sem]; done)); rintro _ rfl; simp (maxSteps := 2000000) (disch := omega) only [go_sem, List.length_map, Int.reduceEq, Int.reduceNe, Nat.reduceBEq, Nat.reduceLT, Nat.reduceLeDiff, Nat.reduceAdd, Nat.reduceSub, Nat.reduceMul, Nat.reduceEqDiff, Int.reduceLT, Int.reduceLE, Int.reduceNeg, Int.reduceToNat, Int.reduceAdd, Int.reduceSub, ↓reduceIte, reduceCtorEq]
  refine awCall_con [] [] (rSum b (by omega)) ?_ ?_ ?_ ?_ ?_; (focus kernel_rfl); (focus exact (.inl rfl)); (focus (simp [go_sem]; done)); (focus (simp [go_sem]; done)); rintro _ rfl; simp (maxSteps := 2000000) (disch := omega) only [go_sem, List.length_map, Int.reduceEq, Int.reduceNe, Nat.reduceBEq, Nat.reduceLT, Nat.reduceLeDiff, Nat.reduceAdd, Nat.reduceSub, Nat.reduceMul, Nat.reduceEqDiff, Int.reduceLT, Int.reduceLE, Int.reduceNeg, Int.reduceToNat, Int.reduceAdd, Int.reduceSub, ↓reduceIte, reduceCtorEq]
  refine awCall_con [] [18] (Sum [49, 50, 51, 52, 53, 54, 55, 56, 57] (by simp)) ?_ ?_ ?_ ?_ ?_; (focus kernel_rfl); (focus exact (.inr ⟨by simp [AV.strong, strongL], by simp [strongM, strongB, strongL, strongL_cellsB, AV.strong]⟩)); (focus (simp [go_sem, viewIn, datsL, AV.dat, chunk, rowsB_cons, rowsB_nil, viewIn]; done)); (focus (simp [go_sem, viewIn, datsL, AV.dat, chunk, rowsB_cons, rowsB_nil, viewIn]; done)); rintro _ rfl; simp (maxSteps := 2000000) (disch := omega) only [go_sem, List.length_map, Int.reduceEq, Int.reduceNe, Nat.reduceBEq, Nat.reduceLT, Nat.reduceLeDiff, Nat.reduceAdd, Nat.reduceSub, Nat.reduceMul, Nat.reduceEqDiff, Int.reduceLT, Int.reduceLE, Int.reduceNeg, Int.reduceToNat, Int.reduceAdd, Int.reduceSub, ↓reduceIte, reduceCtorEq]
  rw [hlit]
  simp (maxSteps := 2000000) (disch := omega) only [go_sem, List.length_map, Int.reduceEq, Int.reduceNe, Nat.reduceBEq, Nat.reduceLT, Nat.reduceLeDiff, Nat.reduceAdd, Nat.reduceSub, Nat.reduceMul, Nat.reduceEqDiff, Int.reduceLT, Int.reduceLE, Int.reduceNeg, Int.reduceToNat, Int.reduceAdd, Int.reduceSub, ↓reduceIte, reduceCtorEq]
  by_cases g1 : at_ < 0
  · simp (maxSteps := 2000000) (disch := omega) only [go_sem, List.length_map, Int.reduceEq, Int.reduceNe, Nat.reduceBEq, Nat.reduceLT, Nat.reduceLeDiff, Nat.reduceAdd, Nat.reduceSub, Nat.reduceMul, Nat.reduceEqDiff, Int.reduceLT, Int.reduceLE, Int.reduceNeg, Int.reduceToNat, Int.reduceAdd, Int.reduceSub, ↓reduceIte, reduceCtorEq, decide_eq_true g1]
    exact fin_ret (by rfl) (by simp [subMem])
  · obtain ⟨k, rfl⟩ : ∃ k : Nat, at_ = k := ⟨at_.toNat, by omega⟩
    have hk : (k : Int).tdiv 8 = ((k / 8 : Nat) : Int) := rfl
    by_cases g2 : b.length ≤ k / 8
    · simp (maxSteps := 2000000) (disch := omega) only [go_sem, List.length_map, Int.reduceEq, Int.reduceNe, Nat.reduceBEq, Nat.reduceLT, Nat.reduceLeDiff, Nat.reduceAdd, Nat.reduceSub, Nat.reduceMul, Nat.reduceEqDiff, Int.reduceLT, Int.reduceLE, Int.reduceNeg, Int.reduceToNat, Int.reduceAdd, Int.reduceSub, ↓reduceIte, reduceCtorEq, decide_eq_false g1, hk, decide_eq_true (show (b.length : Int) ≤ ((k / 8 : Nat) : Int) from by omega)]
      exact fin_ret (by rfl) (by simp [subMem])
    · have g3 : k / 8 < b.length := by omega
      simp (maxSteps := 2000000) (disch := omega) only [go_sem, List.length_map, Int.reduceEq, Int.reduceNe, Nat.reduceBEq, Nat.reduceLT, Nat.reduceLeDiff, Nat.reduceAdd, Nat.reduceSub, Nat.reduceMul, Nat.reduceEqDiff, Int.reduceLT, Int.reduceLE, Int.reduceNeg, Int.reduceToNat, Int.reduceAdd, Int.reduceSub, ↓reduceIte, reduceCtorEq, decide_eq_false g1, hk, decide_eq_false (show ¬ (b.length : Int) ≤ ((k / 8 : Nat) : Int) from by omega)]
      refine z_draw [⟨[(6, none)], [], false, [0]⟩, ⟨[(1, none)], [], false, [0]⟩, ⟨[(35, some 1)], [1], false, [0]⟩, ⟨[(6, none)], [], false, [0]⟩, ⟨[(1, none)], [], false, [0]⟩, ⟨[(38, some 4)], [4], false, [0]⟩, ⟨[(37, some 3), (39, some 5)], [3, 4, 5], false, [0]⟩, ⟨[(40, some 6)], [3, 4, 5, 6], false, [0]⟩, ⟨[(1, none)], [], false, [0]⟩, ⟨[(42, some 8)], [8], false, [0]⟩, ⟨[(43, some 9)], [8, 9], false, [0]⟩, ⟨[(41, some 7), (44, some 10)], [3, 4, 5, 6, 7, 8, 9, 10], false, [0]⟩, ⟨[(34, some 0), (36, some 2)], [0, 1, 2, 3, 4, 5, 6, 7, 8, 9, 10, 11], false, [0]⟩, ⟨[(46, some 12), (45, some 11)], [0, 1, 2, 3, 4, 5, 6, 7, 8, 9, 10, 11, 12], true, []⟩] [13] [(0, none), (1, none), (4, none), (5, none), (6, none), (22, none), (31, none)] [(0, none, 13), (1, none, 13), (4, none, 13), (5, none, 13), (6, none, 13), (22, none, 13), (31, none, 13)] mixed (by kernel_rfl) (by kernel_rfl) (by kernel_rfl) ?_
      have hg : b[k / 8]? = some b[k / 8] := List.getElem?_eq_getElem g3
      have hm : (k : Int).tmod 8 = ((k % 8 : Nat) : Int) := rfl
      simp (maxSteps := 2000000) (disch := omega) only [go_sem, List.length_map, Int.reduceEq, Int.reduceNe, Nat.reduceBEq, Nat.reduceLT, Nat.reduceLeDiff, Nat.reduceAdd, Nat.reduceSub, Nat.reduceMul, Nat.reduceEqDiff, Int.reduceLT, Int.reduceLE, Int.reduceNeg, Int.reduceToNat, Int.reduceAdd, Int.reduceSub, ↓reduceIte, reduceCtorEq, hk, hg, List.head?_drop, hm]
      obtain ⟨c, hc, hne⟩ := flip_val b[k / 8] (k % 8) (by omega)
      have hs : ¬ ((sumC (b.set (k / 8) c)).toNat : Int) = ((sumC b).toNat : Int) := fun h => sumC_set b (k / 8) c g3 hne (BitVec.eq_of_toNat_eq (by exact_mod_cast h))
      have hdl : (b.set (k / 8) c).length = b.length := List.length_set
      erw [hc]
      rw [cellsB_set]
      generalize b.set (k / 8) c = d at hdl hs ⊢
      rw [← hdl]
      refine awCall_con [] [33] (Sum d (by omega)) ?_ ?_ ?_ ?_ ?_; (focus kernel_rfl); (focus exact (.inr ⟨by simp [AV.strong, strongL], by simp [strongM, strongB, strongL, strongL_cellsB, AV.strong]⟩)); (focus (simp [go_sem, datsL_cellsB, chunk_cellsB]; done)); (focus (simp [go_sem, datsL_cellsB, chunk_cellsB]; done)); rintro _ rfl; simp (maxSteps := 2000000) (disch := omega) only [go_sem, List.length_map, Int.reduceEq, Int.reduceNe, Nat.reduceBEq, Nat.reduceLT, Nat.reduceLeDiff, Nat.reduceAdd, Nat.reduceSub, Nat.reduceMul, Nat.reduceEqDiff, Int.reduceLT, Int.reduceLE, Int.reduceNeg, Int.reduceToNat, Int.reduceAdd, Int.reduceSub, ↓reduceIte, reduceCtorEq]
      simp (maxSteps := 2000000) (disch := omega) only [go_sem, List.length_map, Int.reduceEq, Int.reduceNe, Nat.reduceBEq, Nat.reduceLT, Nat.reduceLeDiff, Nat.reduceAdd, Nat.reduceSub, Nat.reduceMul, Nat.reduceEqDiff, Int.reduceLT, Int.reduceLE, Int.reduceNeg, Int.reduceToNat, Int.reduceAdd, Int.reduceSub, ↓reduceIte, reduceCtorEq, hs]
      exact fin_ret (by rfl) (by simp [subMem])
end Go.Proofs.Ytjmkgpkgagohoaa
