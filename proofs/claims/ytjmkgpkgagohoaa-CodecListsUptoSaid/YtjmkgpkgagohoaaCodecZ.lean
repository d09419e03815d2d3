/-
  CodecZ: contracts of functions of the program, and what follows from them.
-/
import Derived.Test.YtjmkgpkgagohoaaTyCodec
import Derived.Test.YtjmkgpkgagohoaaCodecY
import Derived.Test.YtjmkgpkgagohoaaPlAsk
set_option linter.all false
namespace Go.Proofs.Ytjmkgpkgagohoaa
open Go Go.Dk
set_option linter.unusedSimpArgs false
set_option linter.unusedVariables false
set_option maxRecDepth 10000
set_option maxHeartbeats 4000000
set_option pp.deepTerms true
set_option pp.maxSteps 1000000

theorem soft_cellsT (m : List (List UInt8)) (x : List UInt8) : (cellsT m).map soft ++ [soft (AV.imm true 1 (rowsB x))] = cellsT (m ++ [x]) := by
  simp [cellsT, soft]
theorem itemsR_stuck : ∀ (k : Nat) (q : List UInt8) (f : Int), f ≠ 0 → itemsR k (q, f) = ([], q, f)
  | 0, _, _, _ => rfl
  | k + 1, q, f, h => by simp only [itemsR, textR_stuck h]; rw [if_pos h]

theorem itemsR_suf : ∀ (k : Nat) (r : RS) {l : List (List UInt8)} {rs : List UInt8} {e : Int}, itemsR k r = (l, rs, e) → rs <:+ r.1
  | 0, r, l, rs, e, h => by
    simp only [itemsR, Prod.mk.injEq] at h
    rw [h.2]; exact List.suffix_refl _
  | k + 1, r, l, rs, e, h => by
    simp only [itemsR] at h
    split at h
    · simp only [Prod.mk.injEq] at h
      exact textR_suf (l := (textR 9 r).1) (Prod.ext rfl h.2)
    · simp only [Prod.mk.injEq] at h
      have h1 := itemsR_suf k (textR 9 r).2 (l := (itemsR k (textR 9 r).2).1) (rs := rs) (e := e) (Prod.ext rfl h.2)
      exact h1.trans (textR_suf (l := (textR 9 r).1) (rs := (textR 9 r).2.1) (e := (textR 9 r).2.2) rfl)

theorem itemsR_len : ∀ (k : Nat) (r : RS), (itemsR k r).1.length + (itemsR k r).2.1.length ≤ r.1.length
  | 0, r => by simp [itemsR]
  | k + 1, r => by
    obtain ⟨q, f⟩ := r
    obtain ⟨x, q', f', hx⟩ : ∃ x q' f', textR 9 (q, f) = (x, q', f') := ⟨_, _, _, rfl⟩
    simp only [itemsR, hx]
    have h0 := (textR_suf hx).length_le
    dsimp only at h0
    by_cases hf : f' = 0
    · subst hf
      have h1 := textR_less hx
      have h2 := itemsR_len k (q', 0)
      rw [if_neg (by simp)]
      simp only [List.length_cons] at h2 ⊢
      omega
    · rw [if_pos hf]
      simp only [List.length_nil]
      omega

theorem listed (b : List UInt8) (most : Int) (hl : b.length < 1000000000) (hm : -9223372036854775808 ≤ most ∧ most ≤ 9223372036854775807) {n : Nat} {q1 : List UInt8} {f1 : Int} (h1 : roomR most (b, 0) = (n, q1, f1))
    {l : List (List UInt8)} {rs2 : List UInt8} {e2 : Int} (h2 : itemsR n (q1, f1) = (l, rs2, e2)) :
    (Con.mk [.imm false 1 (rowsB b), .v (.int .i64 most)] [] [] (.tup [.imm false 1 (l.map rowT), .agg [.imm false 1 (rowsB (b)), .v (.int .i64 (((b).length - (rs2).length : Nat) : Int)), .v (.int .i64 (e2))]]) []).ok Try.prog 34 := by
  refine ⟨?_, by simp [Con.wf, ids, inA, inM, inB, inL_nil, inL_cons, inL_append, inL_cellsB, inL_dat]⟩
  obtain ⟨M, hM, hM2, hM3⟩ : ∃ M : Nat, IntKind.u64.wrap most = (M : Int) ∧ M < 18446744073709551616 ∧ (0 ≤ most → (M : Int) = most) := by
    have e : IntKind.u64.wrap most = most % 18446744073709551616 := by simp [IntKind.wrap, IntKind.bits, IntKind.signed]
    refine ⟨(most % 18446744073709551616).toNat, ?_, ?_, ?_⟩ <;> omega
  have hnm := (roomR_le h1).2
  have hq1 := roomR_suf h1
  refine con_of_ev true [0, 1, 4, 5, 6, 7, 8, 9, 10, 11, 29, 40] 47 Try.func34 (code := _) rfl rfl Try.ntmps34 (by simp) [.tmp 4, .cell 5 44] (by rw [Try.results34]) ?_
  simp (maxSteps := 2000000) (disch := omega) only [go_sem, List.length_map, Int.reduceEq, Int.reduceNe, Nat.reduceBEq, Nat.reduceLT, Nat.reduceLeDiff, Nat.reduceAdd, Nat.reduceSub, Nat.reduceMul, Nat.reduceEqDiff, Int.reduceLT, Int.reduceLE, Int.reduceNeg, Int.reduceToNat, Int.reduceAdd, Int.reduceSub, ↓reduceIte, reduceCtorEq, hM]
  have h0 : ((b.length - b.length : Nat) : Int) = 0 := by omega
  refine awCall_con [] [] (rGetVar b b 0 M most (by omega) (List.suffix_refl _) hM2 hM3 h1) ?_ ?_ ?_ ?_ ?_; (focus kernel_rfl); (focus exact (.inl rfl)); (focus (simp [go_sem, h0]; done)); (focus (simp [go_sem, h0]; done)); rintro _ rfl; simp (maxSteps := 2000000) (disch := omega) only [go_sem, List.length_map, Int.reduceEq, Int.reduceNe, Nat.reduceBEq, Nat.reduceLT, Nat.reduceLeDiff, Nat.reduceAdd, Nat.reduceSub, Nat.reduceMul, Nat.reduceEqDiff, Int.reduceLT, Int.reduceLE, Int.reduceNeg, Int.reduceToNat, Int.reduceAdd, Int.reduceSub, ↓reduceIte, reduceCtorEq]
  refine ev_loop (α := List (List UInt8) × Nat × RS) (fun x => ⟨[(5, .ptr 5 0), (6, .ptr 6 0), (7, .v (.int .u64 n)), (8, .slc 44 1 0 x.1.length), (9, .v (.int .u64 ((n - x.2.1 : Nat) : Int)))],
      [(5, .cells [.v (.slice none 0 0), .v (.int .i64 0), .v (.int .i64 0)]), (6, .cells [.imm false 1 (rowsB b), .v (.int .i64 ((b.length - x.2.2.1.length : Nat) : Int)), .v (.int .i64 x.2.2.2)]), (44, .cells (cellsT x.1))]⟩)
    (fun x => x.1 ++ (itemsR x.2.1 x.2.2).1 = l ∧ (itemsR x.2.1 x.2.2).2 = (rs2, e2) ∧ x.2.1 ≤ n ∧ x.1.length + x.2.2.1.length ≤ b.length ∧ x.2.2.1 <:+ b) (fun x => x.2.1) ([], n, (q1, f1))
    ⟨by rw [h2]; rfl, by rw [h2], Nat.le_refl _, by simpa using hq1.length_le, hq1⟩
    (Weak.trans (weak_nil 8 44 1 rfl rfl rfl rfl) (weak_sub (by simp [envSub, Dk.look, putE, eraseE]) (by simp [subMem, Dk.find, cellsT_nil]))) ?_
  rintro ⟨m, k, q, f⟩ ⟨g1, g2, g3, g4, g5⟩
  dsimp only at g1 g2 g3 g4 g5
  by_cases hk : k = 0
  · subst hk
    simp only [itemsR, List.append_nil, Prod.mk.injEq] at g1 g2
    obtain ⟨rfl, rfl⟩ := g2
    subst g1
    rw [Nat.sub_zero]
    simp (maxSteps := 2000000) (disch := omega) only [go_sem, List.length_map, Int.reduceEq, Int.reduceNe, Nat.reduceBEq, Nat.reduceLT, Nat.reduceLeDiff, Nat.reduceAdd, Nat.reduceSub, Nat.reduceMul, Nat.reduceEqDiff, Int.reduceLT, Int.reduceLE, Int.reduceNeg, Int.reduceToNat, Int.reduceAdd, Int.reduceSub, ↓reduceIte, reduceCtorEq, decide_eq_false (show ¬ (n : Int) < n from by omega)]
    refine z_draw [⟨[(8, none)], [], false, [0]⟩, ⟨[(6, none)], [], false, [0]⟩, ⟨[(45, some 0)], [0], false, [0]⟩, ⟨[(5, none), (46, some 1)], [0, 1, 2], true, []⟩] [3] [(0, none), (1, none), (4, some 2), (5, none), (6, none), (7, none), (8, none), (9, none), (10, none), (11, none), (29, none), (40, none)] [(0, none, 3), (1, none, 3), (4, some 2, 3), (5, none, 3), (6, none, 3), (7, none, 3), (8, none, 3), (9, none, 3), (10, none, 3), (11, none, 3), (29, none, 3), (40, none, 3)] mixed (by kernel_rfl) (by kernel_rfl) (by kernel_rfl) ?_
    simp (maxSteps := 2000000) (disch := omega) only [go_sem, List.length_map, Int.reduceEq, Int.reduceNe, Nat.reduceBEq, Nat.reduceLT, Nat.reduceLeDiff, Nat.reduceAdd, Nat.reduceSub, Nat.reduceMul, Nat.reduceEqDiff, Int.reduceLT, Int.reduceLE, Int.reduceNeg, Int.reduceToNat, Int.reduceAdd, Int.reduceSub, ↓reduceIte, reduceCtorEq]
    exact Fin_weak (weak_freeze false 44 rfl (.inl rfl) rfl) (fin_ret (by simp [resA, resL, resOne, Dk.look, frzE, frz, frzIf, frzSl_texts, frzM, frzBk, frzL, Dk.find, Dk.erase]; rfl) (by simp [subMem, Dk.find, Dk.erase, frzM, frzBk, frzL, frz, frzIf]))
  · obtain ⟨k, rfl⟩ : ∃ k', k = k' + 1 := ⟨k - 1, by omega⟩
    by_cases hf : f = 0
    · subst hf
      obtain ⟨x, q', f', hx⟩ : ∃ x q' f', textR 9 (q, 0) = (x, q', f') := ⟨_, _, _, rfl⟩
      simp only [itemsR, hx] at g1 g2
      simp (maxSteps := 2000000) (disch := omega) only [go_sem, List.length_map, Int.reduceEq, Int.reduceNe, Nat.reduceBEq, Nat.reduceLT, Nat.reduceLeDiff, Nat.reduceAdd, Nat.reduceSub, Nat.reduceMul, Nat.reduceEqDiff, Int.reduceLT, Int.reduceLE, Int.reduceNeg, Int.reduceToNat, Int.reduceAdd, Int.reduceSub, ↓reduceIte, reduceCtorEq, decide_eq_true (show ((n - (k + 1) : Nat) : Int) < n from by omega)]
      refine awCall_con [] [] (rGetText b q 0 9 (by omega) g5 (by omega) hx) ?_ ?_ ?_ ?_ ?_; (focus kernel_rfl); (focus exact (.inl rfl)); (focus (simp [go_sem]; done)); (focus (simp [go_sem]; done)); rintro _ rfl; simp (maxSteps := 2000000) (disch := omega) only [go_sem, List.length_map, Int.reduceEq, Int.reduceNe, Nat.reduceBEq, Nat.reduceLT, Nat.reduceLeDiff, Nat.reduceAdd, Nat.reduceSub, Nat.reduceMul, Nat.reduceEqDiff, Int.reduceLT, Int.reduceLE, Int.reduceNeg, Int.reduceToNat, Int.reduceAdd, Int.reduceSub, ↓reduceIte, reduceCtorEq]
      by_cases hf' : f' = 0
      · subst hf'
        rw [if_neg (by simp)] at g1 g2
        have hless := textR_less hx
        have hsf : q' <:+ b := (textR_suf hx).trans g5
        simp (maxSteps := 2000000) (disch := omega) only [go_sem, List.length_map, Int.reduceEq, Int.reduceNe, Nat.reduceBEq, Nat.reduceLT, Nat.reduceLeDiff, Nat.reduceAdd, Nat.reduceSub, Nat.reduceMul, Nat.reduceEqDiff, Int.reduceLT, Int.reduceLE, Int.reduceNeg, Int.reduceToNat, Int.reduceAdd, Int.reduceSub, ↓reduceIte, reduceCtorEq, decide_eq_true (show ((n - (k + 1) : Nat) : Int) < n from by omega)]
        refine ⟨(m ++ [x], k, (q', 0)), ⟨by simpa using g1, by simpa using g2, by simp only; omega, by simp only [List.length_append, List.length_cons, List.length_nil]; omega, hsf⟩, by simp only; omega, ?_⟩
        have e1 : ((n - (k + 1) : Nat) : Int) + 1 = ((n - k : Nat) : Int) := by omega
        rw [e1]
        exact Weak.trans (weak_soft 44 rfl) (weak_sub (by simp [envSub, Dk.look]) (by simp [subMem, Dk.find, Dk.put, Dk.erase, soft_cellsT]))
      · rw [if_pos hf'] at g1 g2
        have hsf : q' <:+ b := (textR_suf hx).trans g5
        have hle := (textR_suf hx).length_le
        dsimp only at hle
        simp (maxSteps := 2000000) (disch := omega) only [go_sem, List.length_map, Int.reduceEq, Int.reduceNe, Nat.reduceBEq, Nat.reduceLT, Nat.reduceLeDiff, Nat.reduceAdd, Nat.reduceSub, Nat.reduceMul, Nat.reduceEqDiff, Int.reduceLT, Int.reduceLE, Int.reduceNeg, Int.reduceToNat, Int.reduceAdd, Int.reduceSub, ↓reduceIte, reduceCtorEq, decide_eq_true (show ((n - (k + 1) : Nat) : Int) < n from by omega), decide_eq_false hf', hf']
        refine ⟨(m, k, (q', f')), ⟨by rw [itemsR_stuck k q' f' hf']; exact g1, by rw [itemsR_stuck k q' f' hf']; exact g2, by simp only; omega, by simp only; omega, hsf⟩, by simp only; omega, ?_⟩
        have e1 : ((n - (k + 1) : Nat) : Int) + 1 = ((n - k : Nat) : Int) := by omega
        rw [e1]
        exact weak_sub (by simp [envSub, Dk.look]) (by simp [subMem, Dk.find])
    · rw [itemsR_stuck _ q f hf] at g1 g2
      simp only [List.append_nil, Prod.mk.injEq] at g1 g2
      obtain ⟨rfl, rfl⟩ := g2
      subst g1
      simp (maxSteps := 2000000) (disch := omega) only [go_sem, List.length_map, Int.reduceEq, Int.reduceNe, Nat.reduceBEq, Nat.reduceLT, Nat.reduceLeDiff, Nat.reduceAdd, Nat.reduceSub, Nat.reduceMul, Nat.reduceEqDiff, Int.reduceLT, Int.reduceLE, Int.reduceNeg, Int.reduceToNat, Int.reduceAdd, Int.reduceSub, ↓reduceIte, reduceCtorEq, decide_eq_true (show ((n - (k + 1) : Nat) : Int) < n from by omega), decide_eq_false hf, hf]
      refine z_draw [⟨[(8, none)], [], false, [0]⟩, ⟨[(6, none)], [], false, [0]⟩, ⟨[(45, some 0)], [0], false, [0]⟩, ⟨[(5, none), (46, some 1)], [0, 1, 2], true, []⟩] [3] [(0, none), (1, none), (4, some 2), (5, none), (6, none), (7, none), (8, none), (9, none), (10, none), (11, none), (29, none), (40, none)] [(0, none, 3), (1, none, 3), (4, some 2, 3), (5, none, 3), (6, none, 3), (7, none, 3), (8, none, 3), (9, none, 3), (10, none, 3), (11, none, 3), (29, none, 3), (40, none, 3)] mixed (by kernel_rfl) (by kernel_rfl) (by kernel_rfl) ?_
      simp (maxSteps := 2000000) (disch := omega) only [go_sem, List.length_map, Int.reduceEq, Int.reduceNe, Nat.reduceBEq, Nat.reduceLT, Nat.reduceLeDiff, Nat.reduceAdd, Nat.reduceSub, Nat.reduceMul, Nat.reduceEqDiff, Int.reduceLT, Int.reduceLE, Int.reduceNeg, Int.reduceToNat, Int.reduceAdd, Int.reduceSub, ↓reduceIte, reduceCtorEq]
      exact Fin_weak (weak_freeze false 44 rfl (.inl rfl) rfl) (fin_ret (by simp [resA, resL, resOne, Dk.look, frzE, frz, frzIf, frzSl_texts, frzM, frzBk, frzL, Dk.find, Dk.erase]; rfl) (by simp [subMem, Dk.find, Dk.erase, frzM, frzBk, frzL, frz, frzIf]))

theorem CodecLists (b : List UInt8) (most : Int) (hl : b.length < 1000000000) (hm : -9223372036854775808 ≤ most ∧ most ≤ 9223372036854775807) :
    (Con.mk [.imm false 1 (rowsB b), .v (.int .i64 most)] [] [] (.v (.bool true)) []).ok Try.prog 10 := by
  refine ⟨?_, by simp [Con.wf, ids, inA, inM, inB, inL_nil, inL_cons, inL_append, inL_cellsB, inL_dat]⟩
  obtain ⟨n, q1, f1, h1⟩ : ∃ n q1 f1, roomR most (b, 0) = (n, q1, f1) := ⟨_, _, _, rfl⟩
  obtain ⟨l, rs2, e2, h2⟩ : ∃ l rs2 e2, itemsR n (q1, f1) = (l, rs2, e2) := ⟨_, _, _, rfl⟩
  refine con_of_ev true [0, 1, 4, 5, 6, 7, 8, 9, 17, 29, 52, 54, 55, 56, 67] 69 Try.func10 (code := _) rfl rfl Try.ntmps10 (by simp) [.tmp 4] (by rw [Try.results10]) ?_
  simp (maxSteps := 2000000) (disch := omega) only [go_sem, List.length_map, Int.reduceEq, Int.reduceNe, Nat.reduceBEq, Nat.reduceLT, Nat.reduceLeDiff, Nat.reduceAdd, Nat.reduceSub, Nat.reduceMul, Nat.reduceEqDiff, Int.reduceLT, Int.reduceLE, Int.reduceNeg, Int.reduceToNat, Int.reduceAdd, Int.reduceSub, ↓reduceIte, reduceCtorEq]
  refine awCall_con [(6, 200)] [] (Read b (by omega)) ?_ ?_ ?_ ?_ ?_; (focus kernel_rfl); (focus exact (.inl rfl)); (focus (simp [go_sem]; done)); (focus (simp [go_sem]; done)); rintro _ rfl; simp (maxSteps := 2000000) (disch := omega) only [go_sem, List.length_map, Int.reduceEq, Int.reduceNe, Nat.reduceBEq, Nat.reduceLT, Nat.reduceLeDiff, Nat.reduceAdd, Nat.reduceSub, Nat.reduceMul, Nat.reduceEqDiff, Int.reduceLT, Int.reduceLE, Int.reduceNeg, Int.reduceToNat, Int.reduceAdd, Int.reduceSub, ↓reduceIte, reduceCtorEq]
  refine awCall_con [] [] (alive) ?_ ?_ ?_ ?_ ?_; (focus kernel_rfl); (focus exact (.inl rfl)); (focus (simp [go_sem]; done)); (focus (simp [go_sem]; done)); rintro _ rfl; simp (maxSteps := 2000000) (disch := omega) only [go_sem, List.length_map, Int.reduceEq, Int.reduceNe, Nat.reduceBEq, Nat.reduceLT, Nat.reduceLeDiff, Nat.reduceAdd, Nat.reduceSub, Nat.reduceMul, Nat.reduceEqDiff, Int.reduceLT, Int.reduceLE, Int.reduceNeg, Int.reduceToNat, Int.reduceAdd, Int.reduceSub, ↓reduceIte, reduceCtorEq]
  refine awCall_con [(1000, 200)] [] (List_ b 0 most hl hm h1 h2) ?_ ?_ ?_ ?_ ?_; (focus kernel_rfl); (focus exact (.inl rfl)); (focus (simp [go_sem]; done)); (focus (simp [go_sem]; done)); rintro _ rfl; simp (maxSteps := 2000000) (disch := omega) only [go_sem, List.length_map, Int.reduceEq, Int.reduceNe, Nat.reduceBEq, Nat.reduceLT, Nat.reduceLeDiff, Nat.reduceAdd, Nat.reduceSub, Nat.reduceMul, Nat.reduceEqDiff, Int.reduceLT, Int.reduceLE, Int.reduceNeg, Int.reduceToNat, Int.reduceAdd, Int.reduceSub, ↓reduceIte, reduceCtorEq]
  refine awCall_con [] [] (listed b most hl hm h1 h2) ?_ ?_ ?_ ?_ ?_; (focus kernel_rfl); (focus exact (.inl rfl)); (focus (simp [go_sem]; done)); (focus (simp [go_sem]; done)); rintro _ rfl; simp (maxSteps := 2000000) (disch := omega) only [go_sem, List.length_map, Int.reduceEq, Int.reduceNe, Nat.reduceBEq, Nat.reduceLT, Nat.reduceLeDiff, Nat.reduceAdd, Nat.reduceSub, Nat.reduceMul, Nat.reduceEqDiff, Int.reduceLT, Int.reduceLE, Int.reduceNeg, Int.reduceToNat, Int.reduceAdd, Int.reduceSub, ↓reduceIte, reduceCtorEq]
  by_cases c0 : e2 = 0
  · subst c0
    rw [if_pos rfl]
    have hle : rs2.length ≤ b.length := Nat.le_trans (itemsR_suf n _ h2).length_le (roomR_suf h1).length_le
    have e5 : (rs2.length : Int) = (b.length : Int) - ((b.length - rs2.length : Nat) : Int) := by omega
    simp (maxSteps := 2000000) (disch := omega) only [go_sem, List.length_map, Int.reduceEq, Int.reduceNe, Nat.reduceBEq, Nat.reduceLT, Nat.reduceLeDiff, Nat.reduceAdd, Nat.reduceSub, Nat.reduceMul, Nat.reduceEqDiff, Int.reduceLT, Int.reduceLE, Int.reduceNeg, Int.reduceToNat, Int.reduceAdd, Int.reduceSub, ↓reduceIte, reduceCtorEq]
    refine z_draw [⟨[(6, none)], [], false, [0]⟩, ⟨[(30, some 0)], [0], false, [0]⟩, ⟨[(7, none)], [], false, [0]⟩, ⟨[(32, some 2)], [2], false, [0]⟩, ⟨[(31, some 1), (33, some 3)], [0, 1, 2, 3], false, [0]⟩, ⟨[(34, some 4)], [0, 1, 2, 3, 4], false, [0]⟩, ⟨[(5, none), (35, some 5)], [0, 1, 2, 3, 4, 5], false, [0]⟩, ⟨[(36, some 6), (35, some 5)], [0, 1, 2, 3, 4, 5, 6], true, []⟩, ⟨[(8, none), (35, some 5)], [0, 1, 2, 3, 4, 5], false, [0, 1]⟩, ⟨[(38, some 8), (35, some 5)], [0, 1, 2, 3, 4, 5, 8], false, [0, 1]⟩, ⟨[(37, some 7), (39, some 9), (35, some 5)], [0, 1, 2, 3, 4, 5, 6, 7, 8, 9], false, [1]⟩, ⟨[(35, some 5), (40, some 10)], [0, 1, 2, 3, 4, 5, 6, 7, 8, 9, 10], false, [1]⟩, ⟨[(41, some 11)], [0, 1, 2, 3, 4, 5, 6, 7, 8, 9, 10, 11], false, [1]⟩, ⟨[(5, none), (42, some 12)], [0, 1, 2, 3, 4, 5, 6, 7, 8, 9, 10, 11, 12], false, [1]⟩, ⟨[(43, some 13), (42, some 12)], [0, 1, 2, 3, 4, 5, 6, 7, 8, 9, 10, 11, 12, 13], true, []⟩, ⟨[(8, none), (42, some 12)], [0, 1, 2, 3, 4, 5, 6, 7, 8, 9, 10, 11, 12], false, [1, 2]⟩, ⟨[(45, some 15), (42, some 12)], [0, 1, 2, 3, 4, 5, 6, 7, 8, 9, 10, 11, 12, 15], false, [1, 2]⟩, ⟨[(46, some 16), (42, some 12)], [0, 1, 2, 3, 4, 5, 6, 7, 8, 9, 10, 11, 12, 15, 16], false, [1, 2]⟩, ⟨[(8, none), (42, some 12)], [0, 1, 2, 3, 4, 5, 6, 7, 8, 9, 10, 11, 12], false, [1, 2]⟩, ⟨[(48, some 18), (42, some 12)], [0, 1, 2, 3, 4, 5, 6, 7, 8, 9, 10, 11, 12, 18], false, [1, 2]⟩, ⟨[(47, some 17), (49, some 19), (42, some 12)], [0, 1, 2, 3, 4, 5, 6, 7, 8, 9, 10, 11, 12, 15, 16, 17, 18, 19], false, [1, 2]⟩, ⟨[(44, some 14), (50, some 20), (42, some 12)], [0, 1, 2, 3, 4, 5, 6, 7, 8, 9, 10, 11, 12, 13, 14, 15, 16, 17, 18, 19, 20], false, [2]⟩, ⟨[(42, some 12), (51, some 21)], [0, 1, 2, 3, 4, 5, 6, 7, 8, 9, 10, 11, 12, 13, 14, 15, 16, 17, 18, 19, 20, 21], false, [2]⟩] [7, 14] [(0, none), (1, none), (4, none), (5, none), (6, none), (7, none), (8, none), (9, none), (17, none), (29, none), (52, some 22), (54, none), (55, none), (56, none), (67, none)] [(8, none, 7), (35, some 5, 7), (38, some 8, 7), (39, some 9, 7), (5, none, 7), (8, none, 14), (42, some 12, 14), (45, some 15, 14), (46, some 16, 14), (48, some 18, 14), (47, some 17, 14), (49, some 19, 14), (50, some 20, 14), (0, none, 7), (0, none, 14), (1, none, 7), (1, none, 14), (4, none, 7), (4, none, 14), (5, none, 14), (6, none, 7), (6, none, 14), (7, none, 7), (7, none, 14), (9, none, 7), (9, none, 14), (17, none, 7), (17, none, 14), (29, none, 7), (29, none, 14), (54, none, 7), (54, none, 14), (55, none, 7), (55, none, 14), (56, none, 7), (56, none, 14), (67, none, 7), (67, none, 14)] mixed (by kernel_rfl) (by kernel_rfl) (by kernel_rfl) ?_
    simp (maxSteps := 2000000) (disch := omega) only [go_sem, List.length_map, Int.reduceEq, Int.reduceNe, Nat.reduceBEq, Nat.reduceLT, Nat.reduceLeDiff, Nat.reduceAdd, Nat.reduceSub, Nat.reduceMul, Nat.reduceEqDiff, Int.reduceLT, Int.reduceLE, Int.reduceNeg, Int.reduceToNat, Int.reduceAdd, Int.reduceSub, ↓reduceIte, reduceCtorEq]
    refine evCall_con [(1000, 200)] [] (Reader_Err rs2 0) ?_ ?_ ?_ ?_ ?_; (focus kernel_rfl); (focus exact (.inl rfl)); (focus (simp [go_sem]; done)); (focus (simp [go_sem]; done)); rintro _ rfl; simp (maxSteps := 2000000) (disch := omega) only [go_sem, List.length_map, Int.reduceEq, Int.reduceNe, Nat.reduceBEq, Nat.reduceLT, Nat.reduceLeDiff, Nat.reduceAdd, Nat.reduceSub, Nat.reduceMul, Nat.reduceEqDiff, Int.reduceLT, Int.reduceLE, Int.reduceNeg, Int.reduceToNat, Int.reduceAdd, Int.reduceSub, ↓reduceIte, reduceCtorEq]
    refine evCall_con [(1000, 200)] [] (Reader_Left rs2 0) ?_ ?_ ?_ ?_ ?_; (focus kernel_rfl); (focus exact (.inl rfl)); (focus (simp [go_sem]; done)); (focus (simp [go_sem]; done)); rintro _ rfl; simp (maxSteps := 2000000) (disch := omega) only [go_sem, List.length_map, Int.reduceEq, Int.reduceNe, Nat.reduceBEq, Nat.reduceLT, Nat.reduceLeDiff, Nat.reduceAdd, Nat.reduceSub, Nat.reduceMul, Nat.reduceEqDiff, Int.reduceLT, Int.reduceLE, Int.reduceNeg, Int.reduceToNat, Int.reduceAdd, Int.reduceSub, ↓reduceIte, reduceCtorEq]
    simp (maxSteps := 2000000) (disch := omega) only [go_sem, List.length_map, Int.reduceEq, Int.reduceNe, Nat.reduceBEq, Nat.reduceLT, Nat.reduceLeDiff, Nat.reduceAdd, Nat.reduceSub, Nat.reduceMul, Nat.reduceEqDiff, Int.reduceLT, Int.reduceLE, Int.reduceNeg, Int.reduceToNat, Int.reduceAdd, Int.reduceSub, ↓reduceIte, reduceCtorEq, decide_eq_true e5]
    have hll := itemsR_len n (q1, f1)
    rw [h2] at hll
    have hq1 := (roomR_suf h1).length_le
    dsimp only at hll hq1
    refine ev_loop (α := Nat) (fun i => ⟨[(6, .imm false 1 (l.map rowT)), (7, .imm false 1 (l.map rowT)), (54, .v (.int .i64 l.length)), (55, .v (.int .i64 (i : Int)))], []⟩) (fun i => i ≤ l.length) (fun i => l.length - i) 0 (Nat.zero_le _)
      (weak_sub (by simp [envSub, Dk.look]) (by simp [subMem])) ?_
    intro i hi
    by_cases h : i < l.length
    · have h' : (i : Int) < l.length := by omega
      obtain ⟨t, hg⟩ : ∃ t, l[i]? = some t := ⟨_, List.getElem?_eq_getElem h⟩
      have hg' : (l.map rowT)[i]? = some (rowT t) := by rw [List.getElem?_map, hg]; rfl
      simp (maxSteps := 2000000) (disch := omega) only [go_sem, List.length_map, Int.reduceEq, Int.reduceNe, Nat.reduceBEq, Nat.reduceLT, Nat.reduceLeDiff, Nat.reduceAdd, Nat.reduceSub, Nat.reduceMul, Nat.reduceEqDiff, Int.reduceLT, Int.reduceLE, Int.reduceNeg, Int.reduceToNat, Int.reduceAdd, Int.reduceSub, ↓reduceIte, reduceCtorEq, h']
      refine z_draw [⟨[(6, none)], [], false, [0]⟩, ⟨[(9, none)], [], false, [0]⟩, ⟨[(58, some 0), (59, some 1)], [0, 1], false, [0]⟩, ⟨[(60, some 2)], [0, 1, 2], false, [0]⟩, ⟨[(7, none)], [], false, [0]⟩, ⟨[(9, none)], [], false, [0]⟩, ⟨[(62, some 4), (63, some 5)], [4, 5], false, [0]⟩, ⟨[(64, some 6)], [4, 5, 6], false, [0]⟩, ⟨[(61, some 3), (65, some 7)], [0, 1, 2, 3, 4, 5, 6, 7], true, []⟩, ⟨[(66, some 8)], [0, 1, 2, 3, 4, 5, 6, 7, 8], false, [1]⟩] [8] [(0, none), (1, none), (4, none), (5, none), (6, none), (7, none), (8, none), (9, none), (17, none), (29, none), (52, none), (54, none), (55, none), (56, none), (67, some 9)] [(0, none, 8), (1, none, 8), (4, none, 8), (5, none, 8), (6, none, 8), (7, none, 8), (8, none, 8), (9, none, 8), (17, none, 8), (29, none, 8), (52, none, 8), (54, none, 8), (55, none, 8), (56, none, 8)] mixed (by kernel_rfl) (by kernel_rfl) (by kernel_rfl) ?_
      simp (maxSteps := 2000000) (disch := omega) only [go_sem, List.length_map, Int.reduceEq, Int.reduceNe, Nat.reduceBEq, Nat.reduceLT, Nat.reduceLeDiff, Nat.reduceAdd, Nat.reduceSub, Nat.reduceMul, Nat.reduceEqDiff, Int.reduceLT, Int.reduceLE, Int.reduceNeg, Int.reduceToNat, Int.reduceAdd, Int.reduceSub, ↓reduceIte, reduceCtorEq, hg', rowT, h']
      refine evCall_con [] [] (same t t) ?_ ?_ ?_ ?_ ?_; (focus kernel_rfl); (focus exact (.inl rfl)); (focus (simp [go_sem]; done)); (focus (simp [go_sem]; done)); rintro _ rfl; simp (maxSteps := 2000000) (disch := omega) only [go_sem, List.length_map, Int.reduceEq, Int.reduceNe, Nat.reduceBEq, Nat.reduceLT, Nat.reduceLeDiff, Nat.reduceAdd, Nat.reduceSub, Nat.reduceMul, Nat.reduceEqDiff, Int.reduceLT, Int.reduceLE, Int.reduceNeg, Int.reduceToNat, Int.reduceAdd, Int.reduceSub, ↓reduceIte, reduceCtorEq]
      exact ⟨i + 1, h, by omega, weak_sub (by simp [envSub, Dk.look]) (by simp [subMem, Dk.find])⟩
    · obtain rfl : i = l.length := by omega
      have h' : ¬ (l.length : Int) < l.length := by omega
      simp (maxSteps := 2000000) (disch := omega) only [go_sem, List.length_map, Int.reduceEq, Int.reduceNe, Nat.reduceBEq, Nat.reduceLT, Nat.reduceLeDiff, Nat.reduceAdd, Nat.reduceSub, Nat.reduceMul, Nat.reduceEqDiff, Int.reduceLT, Int.reduceLE, Int.reduceNeg, Int.reduceToNat, Int.reduceAdd, Int.reduceSub, ↓reduceIte, reduceCtorEq, h']
      exact fin_ret (by rfl) (by simp [subMem])
  · have hle : rs2.length ≤ b.length := Nat.le_trans (itemsR_suf n _ h2).length_le (roomR_suf h1).length_le
    have e5 : (rs2.length : Int) = (b.length : Int) - ((b.length - rs2.length : Nat) : Int) := by omega
    rw [if_neg c0]
    simp (maxSteps := 2000000) (disch := omega) only [go_sem, List.length_map, Int.reduceEq, Int.reduceNe, Nat.reduceBEq, Nat.reduceLT, Nat.reduceLeDiff, Nat.reduceAdd, Nat.reduceSub, Nat.reduceMul, Nat.reduceEqDiff, Int.reduceLT, Int.reduceLE, Int.reduceNeg, Int.reduceToNat, Int.reduceAdd, Int.reduceSub, ↓reduceIte, reduceCtorEq, c0, decide_eq_false c0]
    refine z_draw [⟨[(6, none)], [], false, [0]⟩, ⟨[(30, some 0)], [0], false, [0]⟩, ⟨[(7, none)], [], false, [0]⟩, ⟨[(32, some 2)], [2], false, [0]⟩, ⟨[(31, some 1), (33, some 3)], [0, 1, 2, 3], false, [0]⟩, ⟨[(34, some 4)], [0, 1, 2, 3, 4], false, [0]⟩, ⟨[(5, none), (35, some 5)], [0, 1, 2, 3, 4, 5], false, [0]⟩, ⟨[(36, some 6), (35, some 5)], [0, 1, 2, 3, 4, 5, 6], true, []⟩, ⟨[(8, none), (35, some 5)], [0, 1, 2, 3, 4, 5], false, [0, 1]⟩, ⟨[(38, some 8), (35, some 5)], [0, 1, 2, 3, 4, 5, 8], false, [0, 1]⟩, ⟨[(37, some 7), (39, some 9), (35, some 5)], [0, 1, 2, 3, 4, 5, 6, 7, 8, 9], false, [1]⟩, ⟨[(35, some 5), (40, some 10)], [0, 1, 2, 3, 4, 5, 6, 7, 8, 9, 10], false, [1]⟩, ⟨[(41, some 11)], [0, 1, 2, 3, 4, 5, 6, 7, 8, 9, 10, 11], false, [1]⟩, ⟨[(5, none), (42, some 12)], [0, 1, 2, 3, 4, 5, 6, 7, 8, 9, 10, 11, 12], false, [1]⟩, ⟨[(43, some 13), (42, some 12)], [0, 1, 2, 3, 4, 5, 6, 7, 8, 9, 10, 11, 12, 13], true, []⟩, ⟨[(8, none), (42, some 12)], [0, 1, 2, 3, 4, 5, 6, 7, 8, 9, 10, 11, 12], false, [1, 2]⟩, ⟨[(45, some 15), (42, some 12)], [0, 1, 2, 3, 4, 5, 6, 7, 8, 9, 10, 11, 12, 15], false, [1, 2]⟩, ⟨[(46, some 16), (42, some 12)], [0, 1, 2, 3, 4, 5, 6, 7, 8, 9, 10, 11, 12, 15, 16], false, [1, 2]⟩, ⟨[(8, none), (42, some 12)], [0, 1, 2, 3, 4, 5, 6, 7, 8, 9, 10, 11, 12], false, [1, 2]⟩, ⟨[(48, some 18), (42, some 12)], [0, 1, 2, 3, 4, 5, 6, 7, 8, 9, 10, 11, 12, 18], false, [1, 2]⟩, ⟨[(47, some 17), (49, some 19), (42, some 12)], [0, 1, 2, 3, 4, 5, 6, 7, 8, 9, 10, 11, 12, 15, 16, 17, 18, 19], false, [1, 2]⟩, ⟨[(44, some 14), (50, some 20), (42, some 12)], [0, 1, 2, 3, 4, 5, 6, 7, 8, 9, 10, 11, 12, 13, 14, 15, 16, 17, 18, 19, 20], false, [2]⟩, ⟨[(42, some 12), (51, some 21)], [0, 1, 2, 3, 4, 5, 6, 7, 8, 9, 10, 11, 12, 13, 14, 15, 16, 17, 18, 19, 20, 21], false, [2]⟩] [7, 14] [(0, none), (1, none), (4, none), (5, none), (6, none), (7, none), (8, none), (9, none), (17, none), (29, none), (52, some 22), (54, none), (55, none), (56, none), (67, none)] [(8, none, 7), (35, some 5, 7), (38, some 8, 7), (39, some 9, 7), (5, none, 7), (8, none, 14), (42, some 12, 14), (45, some 15, 14), (46, some 16, 14), (48, some 18, 14), (47, some 17, 14), (49, some 19, 14), (50, some 20, 14), (0, none, 7), (0, none, 14), (1, none, 7), (1, none, 14), (4, none, 7), (4, none, 14), (5, none, 14), (6, none, 7), (6, none, 14), (7, none, 7), (7, none, 14), (9, none, 7), (9, none, 14), (17, none, 7), (17, none, 14), (29, none, 7), (29, none, 14), (54, none, 7), (54, none, 14), (55, none, 7), (55, none, 14), (56, none, 7), (56, none, 14), (67, none, 7), (67, none, 14)] mixed (by kernel_rfl) (by kernel_rfl) (by kernel_rfl) ?_
    simp (maxSteps := 2000000) (disch := omega) only [go_sem, List.length_map, Int.reduceEq, Int.reduceNe, Nat.reduceBEq, Nat.reduceLT, Nat.reduceLeDiff, Nat.reduceAdd, Nat.reduceSub, Nat.reduceMul, Nat.reduceEqDiff, Int.reduceLT, Int.reduceLE, Int.reduceNeg, Int.reduceToNat, Int.reduceAdd, Int.reduceSub, ↓reduceIte, reduceCtorEq]
    refine evCall_con [(1000, 200)] [] (Reader_Err rs2 e2) ?_ ?_ ?_ ?_ ?_; (focus kernel_rfl); (focus exact (.inl rfl)); (focus (simp [go_sem]; done)); (focus (simp [go_sem]; done)); rintro _ rfl; simp (maxSteps := 2000000) (disch := omega) only [go_sem, List.length_map, Int.reduceEq, Int.reduceNe, Nat.reduceBEq, Nat.reduceLT, Nat.reduceLeDiff, Nat.reduceAdd, Nat.reduceSub, Nat.reduceMul, Nat.reduceEqDiff, Int.reduceLT, Int.reduceLE, Int.reduceNeg, Int.reduceToNat, Int.reduceAdd, Int.reduceSub, ↓reduceIte, reduceCtorEq]
    refine evCall_con [(1000, 200)] [] (Reader_Left rs2 e2) ?_ ?_ ?_ ?_ ?_; (focus kernel_rfl); (focus exact (.inl rfl)); (focus (simp [go_sem]; done)); (focus (simp [go_sem]; done)); rintro _ rfl; simp (maxSteps := 2000000) (disch := omega) only [go_sem, List.length_map, Int.reduceEq, Int.reduceNe, Nat.reduceBEq, Nat.reduceLT, Nat.reduceLeDiff, Nat.reduceAdd, Nat.reduceSub, Nat.reduceMul, Nat.reduceEqDiff, Int.reduceLT, Int.reduceLE, Int.reduceNeg, Int.reduceToNat, Int.reduceAdd, Int.reduceSub, ↓reduceIte, reduceCtorEq]
    simp (maxSteps := 2000000) (disch := omega) only [go_sem, List.length_map, Int.reduceEq, Int.reduceNe, Nat.reduceBEq, Nat.reduceLT, Nat.reduceLeDiff, Nat.reduceAdd, Nat.reduceSub, Nat.reduceMul, Nat.reduceEqDiff, Int.reduceLT, Int.reduceLE, Int.reduceNeg, Int.reduceToNat, Int.reduceAdd, Int.reduceSub, ↓reduceIte, reduceCtorEq, decide_eq_true e5]
    refine ev_loop (α := Unit) (fun _ => ⟨[(54, .v (.int .i64 0)), (55, .v (.int .i64 0))], []⟩) (fun _ => True) (fun _ => 0) () trivial (weak_sub (by simp [envSub, Dk.look]) (by simp [subMem])) ?_
    rintro _ _
    simp (maxSteps := 2000000) (disch := omega) only [go_sem, List.length_map, Int.reduceEq, Int.reduceNe, Nat.reduceBEq, Nat.reduceLT, Nat.reduceLeDiff, Nat.reduceAdd, Nat.reduceSub, Nat.reduceMul, Nat.reduceEqDiff, Int.reduceLT, Int.reduceLE, Int.reduceNeg, Int.reduceToNat, Int.reduceAdd, Int.reduceSub, ↓reduceIte, reduceCtorEq]
    exact fin_ret (by rfl) (by simp [subMem])
end Go.Proofs.Ytjmkgpkgagohoaa
