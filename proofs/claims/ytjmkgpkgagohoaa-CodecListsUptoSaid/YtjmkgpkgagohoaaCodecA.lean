/-
  CodecA: contracts of functions of the program, and what follows from them.
-/
import Derived.Test.YtjmkgpkgagohoaaTyCodec
set_option linter.all false
namespace Go.Proofs.Ytjmkgpkgagohoaa
open Go Go.Dk
set_option linter.unusedSimpArgs false
set_option linter.unusedVariables false
set_option maxRecDepth 10000

theorem Writer_Byte (bs : List UInt8) (b : UInt8) (hl : bs.length < 1000000000000) :
    (Con.mk [.ptr 1000 0, .v (.int .u8 b.toNat)] [(1000, .cells [.slc 1001 1 0 (bs).length]), (1001, .cells (cellsB (bs)))] [1000] (.tup []) [(1000, .cells [.slc 1001 1 0 (bs ++ [b]).length]), (1001, .cells (cellsB (bs ++ [b])))]).ok Try.prog 49 := by
  refine ⟨?_, by simp [Con.wf, ids, inA, inM, inB, inL_nil, inL_cons, inL_append, inL_cellsB, inL_dat]⟩
  refine con_of_ev true [0, 1] 14 Try.func49 (code := _) rfl rfl Try.ntmps49 (by simp) [] (by rw [Try.results49]) ?_
  simp (maxSteps := 2000000) (disch := omega) only [go_sem, Int.reduceEq, Int.reduceNe, Nat.reduceBEq, Nat.reduceLT, Nat.reduceLeDiff, Nat.reduceAdd, Nat.reduceSub, Nat.reduceMul, Nat.reduceEqDiff, Int.reduceLT, Int.reduceLE, Int.reduceNeg, Int.reduceToNat, Int.reduceAdd, Int.reduceSub, ↓reduceIte, reduceCtorEq]
  rw [List.take_length]
  exact fin_normal (by rfl) (by simp [subMem, Dk.find, cellsB_snoc])

theorem Writer_high (bs : List UInt8) (n : Nat) (many : Nat) (hm : many ≤ 8) (hn : n < 18446744073709551616) (hl : bs.length < 1000000000000) :
    (Con.mk [.ptr 1000 0, .v (.int .u64 n), .v (.int .i64 many)] [(1000, .cells [.slc 1001 1 0 (bs).length]), (1001, .cells (cellsB (bs)))] [1000] (.tup []) [(1000, .cells [.slc 1001 1 0 (bs ++ highB n many).length]), (1001, .cells (cellsB (bs ++ highB n many)))]).ok Try.prog 50 := by
  refine ⟨?_, by simp [Con.wf, ids, inA, inM, inB, inL_nil, inL_cons, inL_append, inL_cellsB, inL_dat]⟩
  refine con_of_ev true [0, 1, 2, 7] 24 Try.func50 (code := _) rfl rfl Try.ntmps50 (by simp) [] (by rw [Try.results50]) ?_
  simp (maxSteps := 2000000) (disch := omega) only [go_sem, Int.reduceEq, Int.reduceNe, Nat.reduceBEq, Nat.reduceLT, Nat.reduceLeDiff, Nat.reduceAdd, Nat.reduceSub, Nat.reduceMul, Nat.reduceEqDiff, Int.reduceLT, Int.reduceLE, Int.reduceNeg, Int.reduceToNat, Int.reduceAdd, Int.reduceSub, ↓reduceIte, reduceCtorEq]
  refine ev_loop (α := List UInt8 × Nat) (fun x => ⟨[(0, .ptr 1000 0), (1, .v (.int .u64 n)), (2, .v (.int .i64 (x.2 : Int)))], [(1000, .cells [.slc 1001 1 0 (x.1).length]), (1001, .cells (cellsB (x.1)))]⟩)
    (fun x => x.1 ++ highB n x.2 = bs ++ highB n many ∧ x.2 ≤ many ∧ x.1.length + x.2 = bs.length + many) (fun x => x.2) (bs, many) ⟨rfl, Nat.le_refl _, rfl⟩ (weak_sub (by simp [envSub, Dk.look]) (by simp [subMem, Dk.find])) ?_
  rintro ⟨cs, k⟩ ⟨h1, h2, h3⟩
  dsimp only at h1 h2 h3
  simp (maxSteps := 2000000) (disch := omega) only [go_sem, Int.reduceEq, Int.reduceNe, Nat.reduceBEq, Nat.reduceLT, Nat.reduceLeDiff, Nat.reduceAdd, Nat.reduceSub, Nat.reduceMul, Nat.reduceEqDiff, Int.reduceLT, Int.reduceLE, Int.reduceNeg, Int.reduceToNat, Int.reduceAdd, Int.reduceSub, ↓reduceIte, reduceCtorEq]
  refine awIf2_dec (fun hk => ?_) (fun hk => ?_)
  · obtain ⟨k, rfl⟩ : ∃ q, k = q + 1 := ⟨k - 1, by omega⟩
    simp (maxSteps := 2000000) (disch := omega) only [go_sem, Int.reduceEq, Int.reduceNe, Nat.reduceBEq, Nat.reduceLT, Nat.reduceLeDiff, Nat.reduceAdd, Nat.reduceSub, Nat.reduceMul, Nat.reduceEqDiff, Int.reduceLT, Int.reduceLE, Int.reduceNeg, Int.reduceToNat, Int.reduceAdd, Int.reduceSub, ↓reduceIte, reduceCtorEq]
    refine z_draw [⟨[(0, none)], [], false, [0, 1, 2]⟩, ⟨[(0, none)], [], false, [0, 1]⟩, ⟨[(11, some 1)], [1], false, [0, 1]⟩, ⟨[(12, some 2)], [1, 2], false, [0, 1]⟩, ⟨[(13, some 3)], [1, 2, 3], false, [0, 1]⟩, ⟨[(1, none)], [], false, [0]⟩, ⟨[(2, none)], [], false, [0]⟩, ⟨[(16, some 6)], [6], false, [0]⟩, ⟨[(15, some 5), (17, some 7)], [5, 6, 7], false, [0]⟩, ⟨[(18, some 8)], [5, 6, 7, 8], false, [0]⟩, ⟨[(19, some 9)], [5, 6, 7, 8, 9], true, []⟩, ⟨[(14, some 4), (20, some 10)], [1, 2, 3, 4, 5, 6, 7, 8, 9, 10], true, []⟩, ⟨[(10, some 0)], [0, 1, 2, 3, 4, 5, 6, 7, 8, 9, 10, 11], false, [2]⟩, ⟨[(22, some 12)], [0, 1, 2, 3, 4, 5, 6, 7, 8, 9, 10, 11, 12], false, [2]⟩, ⟨[(23, some 13), (21, some 11)], [0, 1, 2, 3, 4, 5, 6, 7, 8, 9, 10, 11, 12, 13], true, []⟩] [10, 11, 14] [(0, none), (1, none), (2, none), (7, none)] [(0, none, 10), (0, none, 11), (11, some 1, 10), (12, some 2, 10), (13, some 3, 10), (14, some 4, 10), (10, some 0, 10), (10, some 0, 11), (0, none, 14), (1, none, 10), (1, none, 11), (1, none, 14), (2, none, 10), (2, none, 11), (2, none, 14), (7, none, 10), (7, none, 11), (7, none, 14)] mixed (by kernel_rfl) (by kernel_rfl) (by kernel_rfl) ?_
    simp (maxSteps := 2000000) (disch := omega) only [go_sem, Int.reduceEq, Int.reduceNe, Nat.reduceBEq, Nat.reduceLT, Nat.reduceLeDiff, Nat.reduceAdd, Nat.reduceSub, Nat.reduceMul, Nat.reduceEqDiff, Int.reduceLT, Int.reduceLE, Int.reduceNeg, Int.reduceToNat, Int.reduceAdd, Int.reduceSub, ↓reduceIte, reduceCtorEq]
    refine ⟨(cs ++ [UInt8.ofNat (n / 2 ^ (8 * k))], k), ⟨by simpa [highB] using h1, by omega, by simp; omega⟩, by omega, ?_⟩
    have e : min (8 * (((k + 1 : Nat) : Int) - 1)).toNat 64 = 8 * k := by omega
    rw [e, fdivN, wrapB, List.take_length, cellsB_snoc]
    exact weak_sub (by simp [envSub, Dk.look]) (by simp [subMem, Dk.find])
  · obtain rfl : k = 0 := by omega
    simp only [highB, List.append_nil] at h1
    subst h1
    simp (maxSteps := 2000000) (disch := omega) only [go_sem, Int.reduceEq, Int.reduceNe, Nat.reduceBEq, Nat.reduceLT, Nat.reduceLeDiff, Nat.reduceAdd, Nat.reduceSub, Nat.reduceMul, Nat.reduceEqDiff, Int.reduceLT, Int.reduceLE, Int.reduceNeg, Int.reduceToNat, Int.reduceAdd, Int.reduceSub, ↓reduceIte, reduceCtorEq]
    exact fin_normal (by rfl) (by simp [subMem, Dk.find])

theorem Writer_Word (bs : List UInt8) (n : Nat) (hn : n < 4294967296) (hl : bs.length < 1000000000000) :
    (Con.mk [.ptr 1000 0, .v (.int .u32 n)] [(1000, .cells [.slc 1001 1 0 (bs).length]), (1001, .cells (cellsB (bs)))] [1000] (.tup []) [(1000, .cells [.slc 1001 1 0 (bs ++ highB n 4).length]), (1001, .cells (cellsB (bs ++ highB n 4)))]).ok Try.prog 51 := by
  refine ⟨?_, by simp [Con.wf, ids, inA, inM, inB, inL_nil, inL_cons, inL_append, inL_cellsB, inL_dat]⟩
  refine con_of_ev true [0, 1] 8 Try.func51 (code := _) rfl rfl Try.ntmps51 (by simp) [] (by rw [Try.results51]) ?_
  simp (maxSteps := 2000000) (disch := omega) only [go_sem, Int.reduceEq, Int.reduceNe, Nat.reduceBEq, Nat.reduceLT, Nat.reduceLeDiff, Nat.reduceAdd, Nat.reduceSub, Nat.reduceMul, Nat.reduceEqDiff, Int.reduceLT, Int.reduceLE, Int.reduceNeg, Int.reduceToNat, Int.reduceAdd, Int.reduceSub, ↓reduceIte, reduceCtorEq]
  refine awCall_con [] [] (Writer_high bs n 4 (by omega) (by omega) hl) (by kernel_rfl) (.inl rfl) (by simp [go_sem]) (by simp [go_sem]) ?_; rintro _ rfl; simp (maxSteps := 2000000) (disch := omega) only [go_sem, Int.reduceEq, Int.reduceNe, Nat.reduceBEq, Nat.reduceLT, Nat.reduceLeDiff, Nat.reduceAdd, Nat.reduceSub, Nat.reduceMul, Nat.reduceEqDiff, Int.reduceLT, Int.reduceLE, Int.reduceNeg, Int.reduceToNat, Int.reduceAdd, Int.reduceSub, ↓reduceIte, reduceCtorEq]
  exact fin_normal (by rfl) (by simp [subMem, Dk.find])
end Go.Proofs.Ytjmkgpkgagohoaa
