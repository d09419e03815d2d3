/-
  CodecY: contracts of functions of the program, and what follows from them.
-/
import Derived.Test.YtjmkgpkgagohoaaTyCodec
import Derived.Test.YtjmkgpkgagohoaaCodecL
import Derived.Test.YtjmkgpkgagohoaaDk3
set_option linter.all false
namespace Go.Proofs.Ytjmkgpkgagohoaa
open Go Go.Dk
set_option linter.unusedSimpArgs false
set_option linter.unusedVariables false
set_option maxRecDepth 10000
set_option maxHeartbeats 4000000
set_option pp.deepTerms true
set_option pp.maxSteps 1000000

def cellsT (m : List (List UInt8)) : List AV := m.map fun b => .imm false 1 (rowsB b)
theorem cellsT_nil : cellsT [] = [] := rfl
theorem cellsT_length (m : List (List UInt8)) : (cellsT m).length = m.length := by simp [cellsT]
theorem cellsT_take (m : List (List UInt8)) : (cellsT m).take m.length = cellsT m := List.take_of_length_le (by simp [cellsT])
theorem cellsT_snoc (m : List (List UInt8)) (x : List UInt8) : cellsT m ++ [.imm false 1 (rowsB x)] = cellsT (m ++ [x]) := by simp [cellsT]
theorem scrubL_cellsT (i : Nat) (m : List (List UInt8)) : scrubL i (cellsT m) = cellsT m := by
  induction m with
  | nil => rfl
  | cons b m ih => simp only [cellsT, List.map_cons] at ih ⊢; rw [scrubL_cons, ih]; rfl
theorem renL_cellsT (f : Nat → Nat) (m : List (List UInt8)) : renL f (cellsT m) = cellsT m := by
  induction m with
  | nil => rfl
  | cons b m ih => simp only [cellsT, List.map_cons] at ih ⊢; rw [renL_cons, ih]; rfl
theorem viewL_cellsT (H : Mem) (V : List Nat) (m : List (List UInt8)) : viewL H V (cellsT m) = cellsT m := by
  induction m with
  | nil => rfl
  | cons b m ih => simp only [cellsT, List.map_cons] at ih ⊢; rw [viewL_cons, ih]; rfl
@[simp] theorem inL_cellsT (L : List Nat) (m : List (List UInt8)) : inL L (cellsT m) = true := by
  induction m with
  | nil => rfl
  | cons b m ih => simp only [cellsT, List.map_cons] at ih ⊢; rw [inL_cons, ih]; rfl
theorem datsL_cellsT (m : List (List UInt8)) : datsL (cellsT m) = some (m.map fun b => .sl 1 (rowsB b)) := by
  induction m with
  | nil => rfl
  | cons b m ih => simp only [cellsT, List.map_cons, datsL] at ih ⊢; rw [ih]; rfl
theorem chunk_cellsT (m : List (List UInt8)) : chunk 1 m.length (m.map fun b => Dat.sl 1 (rowsB b)) = m.map rowT := by
  induction m with
  | nil => rfl
  | cons b m ih => simp only [List.length_cons, chunk, List.map_cons, List.take_succ_cons, List.take_zero, List.drop_succ_cons, List.drop_zero, ih]; rfl
theorem frzSl_texts {g : Bool} {id : Nat} {m : List (List UInt8)} : frzSl g (cellsT m) id 1 0 m.length = .imm g 1 (m.map rowT) := by
  unfold frzSl
  simp only [List.drop_zero, Nat.mul_one, cellsT_take, datsL_cellsT, cellsT_length, Nat.zero_add, Nat.le_refl, if_true, chunk_cellsT]
attribute [go_sem] cellsT_nil cellsT_length cellsT_take cellsT_snoc scrubL_cellsT renL_cellsT viewL_cellsT

theorem short (rs : List UInt8) (e : Int) (hl : rs.length < 1000000000000) {l : List UInt8} {rs2 : List UInt8} {e2 : Int} (hv : textR 9 (rs, e) = (l, rs2, e2)) :
    (Con.mk [.ptr 1000 0] [(1000, .cells [.imm false 1 (rowsB (rs)), .v (.int .i64 (e))])] [1000] (.imm true 1 (rowsB l)) [(1000, .cells [.imm false 1 (rowsB (rs2)), .v (.int .i64 (e2))])]).ok Try.prog 36 := by
  refine ⟨?_, by simp [Con.wf, ids, inA, inM, inB, inL_nil, inL_cons, inL_append, inL_cellsB, inL_dat]⟩
  refine con_of_ev true [0, 2] 5 Try.func36 (code := _) rfl rfl Try.ntmps36 (by simp) [.tmp 2] (by rw [Try.results36]) ?_
  simp (maxSteps := 2000000) (disch := omega) only [go_sem, List.length_map, Int.reduceEq, Int.reduceNe, Nat.reduceBEq, Nat.reduceLT, Nat.reduceLeDiff, Nat.reduceAdd, Nat.reduceSub, Nat.reduceMul, Nat.reduceEqDiff, Int.reduceLT, Int.reduceLE, Int.reduceNeg, Int.reduceToNat, Int.reduceAdd, Int.reduceSub, ↓reduceIte, reduceCtorEq]
  refine awCall_con [] [] (Reader_Text rs e 9 hl (by omega) hv) ?_ ?_ ?_ ?_ ?_; (focus kernel_rfl); (focus exact (.inl rfl)); (focus (simp [go_sem]; done)); (focus (simp [go_sem]; done)); rintro _ rfl; simp (maxSteps := 2000000) (disch := omega) only [go_sem, List.length_map, Int.reduceEq, Int.reduceNe, Nat.reduceBEq, Nat.reduceLT, Nat.reduceLeDiff, Nat.reduceAdd, Nat.reduceSub, Nat.reduceMul, Nat.reduceEqDiff, Int.reduceLT, Int.reduceLE, Int.reduceNeg, Int.reduceToNat, Int.reduceAdd, Int.reduceSub, ↓reduceIte, reduceCtorEq]
  exact fin_ret (by rfl) (by simp [subMem, Dk.find])

theorem Items (rs : List UInt8) (e : Int) (most : Int) :
    (Con.mk [.ptr 1000 0, .v (.int .i64 most), .fn (.func 36) []] [(1000, .cells [.imm false 1 (rowsB (rs)), .v (.int .i64 (e))])] [1000] (.fn (.func 63) [.ptr 3 0, .ptr 4 0, .ptr 5 0])
      ([(1000, .cells [.imm false 1 (rowsB (rs)), .v (.int .i64 (e))])] ++ [(3, .cells [.ptr 1000 0]), (4, .cells [.v (.int .i64 most)]), (5, .cells [.fn (.func 36) []])])).ok Try.prog 35 := by
  refine ⟨?_, by simp [Con.wf, ids, inA, inM, inB, inL_nil, inL_cons, inL_append, inL_cellsB, inL_dat]⟩
  refine con_of_ev true [0, 1, 2, 3, 4, 5, 6] 8 Try.func35 (code := _) rfl rfl Try.ntmps35 (by simp) [.tmp 6] (by rw [Try.results35]) ?_
  simp (maxSteps := 2000000) (disch := omega) only [go_sem, List.length_map, Int.reduceEq, Int.reduceNe, Nat.reduceBEq, Nat.reduceLT, Nat.reduceLeDiff, Nat.reduceAdd, Nat.reduceSub, Nat.reduceMul, Nat.reduceEqDiff, Int.reduceLT, Int.reduceLE, Int.reduceNeg, Int.reduceToNat, Int.reduceAdd, Int.reduceSub, ↓reduceIte, reduceCtorEq]
  exact fin_ret (by rfl) (by simp [subMem, Dk.find])

def itemsR : Nat → RS → List (List UInt8) × RS
  | 0, r => ([], r)
  | k + 1, r => if (textR 9 r).2.2 ≠ 0 then ([], (textR 9 r).2) else ((textR 9 r).1 :: (itemsR k (textR 9 r).2).1, (itemsR k (textR 9 r).2).2)

theorem varB_pos (n : Nat) : 0 < (varB n).length := by unfold varB; repeat' split
                                                       all_goals simp
theorem textR_less {m : Int} {rs : List UInt8} {e : Int} {x rs2 : List UInt8} (h : textR m (rs, e) = (x, rs2, 0)) : rs2.length < rs.length := by
  obtain ⟨n, r1, e1, h1⟩ : ∃ n r1 e1, roomR m (rs, e) = (n, r1, e1) := ⟨_, _, _, rfl⟩
  unfold textR at h
  rw [h1] at h
  dsimp only at h
  by_cases c0 : e1 = 0
  · subst c0
    have h2 : varR m.toNat (rs, e) = (n, r1, 0) := by
      unfold roomR at h1
      split at h1
      · simp at h1
      · exact h1
    obtain ⟨_, h3, _⟩ := varR_ok h2
    dsimp only at h3
    have hv := varB_pos n
    have hr : r1.length < rs.length := by rw [h3, List.length_append]; omega
    split at h
    · simp [getT, takeR] at h
    · have := (getT_suf h).length_le
      dsimp only at this
      omega
  · rw [if_neg (by simp [c0])] at h
    simp [getT, takeR, c0] at h

theorem List_ (rs : List UInt8) (e : Int) (most : Int) (hl : rs.length < 1000000000) (hm : -9223372036854775808 ≤ most ∧ most ≤ 9223372036854775807) {n : Nat} {r1 : RS} (h1 : roomR most (rs, e) = (n, r1))
    {l : List (List UInt8)} {rs2 : List UInt8} {e2 : Int} (h2 : itemsR n r1 = (l, rs2, e2)) :
    (Con.mk [.ptr 1000 0, .v (.int .i64 most), .fn (.func 36) []] [(1000, .cells [.imm false 1 (rowsB (rs)), .v (.int .i64 (e))])] [1000]
      (.imm false 1 ((if e2 = 0 then l else []).map rowT)) [(1000, .cells [.imm false 1 (rowsB (rs2)), .v (.int .i64 (e2))])]).ok Try.prog 39 := by
  refine ⟨?_, by simp [Con.wf, ids, inA, inM, inB, inL_nil, inL_cons, inL_append, inL_cellsB, inL_dat]⟩
  refine con_of_ev false [0, 1, 2, 6, 7, 9, 13, 24] 26 Try.func39 (code := _) rfl rfl Try.ntmps39 (by simp) [.tmp 6] (by rw [Try.results39]) ?_
  simp (maxSteps := 2000000) (disch := omega) only [go_sem, List.length_map, Int.reduceEq, Int.reduceNe, Nat.reduceBEq, Nat.reduceLT, Nat.reduceLeDiff, Nat.reduceAdd, Nat.reduceSub, Nat.reduceMul, Nat.reduceEqDiff, Int.reduceLT, Int.reduceLE, Int.reduceNeg, Int.reduceToNat, Int.reduceAdd, Int.reduceSub, ↓reduceIte, reduceCtorEq]
  refine awCall_con [(1000, 1000), (3, 103), (4, 104), (5, 105)] [] (Items rs e most) ?_ ?_ ?_ ?_ ?_; (focus kernel_rfl); (focus exact (.inl rfl)); (focus (simp [go_sem]; done)); (focus (simp [go_sem]; done)); rintro _ rfl; simp (maxSteps := 2000000) (disch := omega) only [go_sem, List.length_map, Int.reduceEq, Int.reduceNe, Nat.reduceBEq, Nat.reduceLT, Nat.reduceLeDiff, Nat.reduceAdd, Nat.reduceSub, Nat.reduceMul, Nat.reduceEqDiff, Int.reduceLT, Int.reduceLE, Int.reduceNeg, Int.reduceToNat, Int.reduceAdd, Int.reduceSub, ↓reduceIte, reduceCtorEq]
  refine awRange_weak (Weak.trans (weak_cellnil 7 0 19 1 [.v (.slice none 0 0)] rfl rfl rfl rfl rfl)
    (weak_sub (env' := [(7, .ptr 7 0), (0, .ptr 1000 0), (13, .fn (.func 63) [.ptr 103 0, .ptr 104 0, .ptr 105 0])])
      (H' := [(1000, .cells [.imm false 1 (rowsB (rs)), .v (.int .i64 (e))])] ++ [(103, .cells [.ptr 1000 0]), (104, .cells [.v (.int .i64 most)]), (105, .cells [.fn (.func 36) []]), (7, .cells [.slc 19 1 0 0]), (19, .cells [])])
      (by simp [envSub, Dk.look]) (by simp [subMem, Dk.find, Dk.erase]))) ?_
  refine awRange_intro2 (ps := [14, 15]) 200 (f := 63) (caps := [.ptr 103 0, .ptr 104 0, .ptr 105 0]) (code := _) [0, 1, 2, 3, 5, 6, 7, 14, 31] 32 rfl Try.func63 rfl rfl rfl (by simp) rfl (by rfl) rfl rfl rfl rfl (by decide) rfl ?_
  intro j fid tm mk hmk htm
  have round : ∀ (i : Int) (x : List UInt8) (m : List (List UInt8)) (rs : List UInt8) (e : Int), m.length < 1000000000 →
      (Con.mk [.v (.int .i64 i), .imm false 1 (rowsB x)]
        ((200, .oth (mk .ready none) [.ptr 7 0, .ptr 1000 0, .fn (.func 63) [.ptr 103 0, .ptr 104 0, .ptr 105 0]]) :: ([(1000, .cells [.imm false 1 (rowsB (rs)), .v (.int .i64 (e))])] ++ [(103, .cells [.ptr 1000 0]), (104, .cells [.v (.int .i64 most)]), (105, .cells [.fn (.func 36) []]), (7, .cells [.slc 19 1 0 m.length]), (19, .cells (cellsT m))]))
        [200, 1000, 103, 104, 105, 7] (.v (.bool true))
        ((200, .oth (mk .ready none) [.ptr 7 0, .ptr 1000 0, .fn (.func 63) [.ptr 103 0, .ptr 104 0, .ptr 105 0]]) :: ([(1000, .cells [.imm false 1 (rowsB (rs)), .v (.int .i64 (e))])] ++ [(103, .cells [.ptr 1000 0]), (104, .cells [.v (.int .i64 most)]), (105, .cells [.fn (.func 36) []]), (7, .cells [.slc 19 1 0 (m ++ [x]).length]), (19, .cells (cellsT (m ++ [x])))]))).okY Try.prog j := by
    intro i x m rs e hml
    subst hmk
    refine ⟨?_, ?_⟩
    · refine con_of_round 200 j (ts := [7, 0, 13]) (tm := tm) (fid := fid) (ps := [14, 15]) [0, 1, 2, 6, 7, 9, 13, 24] 26 rfl htm rfl (by simp) (by rfl) (by rfl) ?_
      simp (maxSteps := 2000000) (disch := omega) only [go_sem, List.length_map, Int.reduceEq, Int.reduceNe, Nat.reduceBEq, Nat.reduceLT, Nat.reduceLeDiff, Nat.reduceAdd, Nat.reduceSub, Nat.reduceMul, Nat.reduceEqDiff, Int.reduceLT, Int.reduceLE, Int.reduceNeg, Int.reduceToNat, Int.reduceAdd, Int.reduceSub, ↓reduceIte, reduceCtorEq, putPs, List.zip_cons_cons, List.zip_nil_left]
      refine ⟨_, rfl, ?_⟩
      simp (maxSteps := 2000000) (disch := omega) only [go_sem, List.length_map, Int.reduceEq, Int.reduceNe, Nat.reduceBEq, Nat.reduceLT, Nat.reduceLeDiff, Nat.reduceAdd, Nat.reduceSub, Nat.reduceMul, Nat.reduceEqDiff, Int.reduceLT, Int.reduceLE, Int.reduceNeg, Int.reduceToNat, Int.reduceAdd, Int.reduceSub, ↓reduceIte, reduceCtorEq]
      exact ⟨_, Weak.refl _ _, _, rfl, rfl, by simp [subMem, Dk.find, Dk.put, Dk.erase]⟩
    · simp [Con.wf, ids, inA, inM, inB, inL_nil, inL_cons, inL_append, inL_cellsB, inL_dat]
  clear hmk
  simp (maxSteps := 2000000) (disch := omega) only [go_sem, List.length_map, Int.reduceEq, Int.reduceNe, Nat.reduceBEq, Nat.reduceLT, Nat.reduceLeDiff, Nat.reduceAdd, Nat.reduceSub, Nat.reduceMul, Nat.reduceEqDiff, Int.reduceLT, Int.reduceLE, Int.reduceNeg, Int.reduceToNat, Int.reduceAdd, Int.reduceSub, ↓reduceIte, reduceCtorEq]
  obtain ⟨q1, f1⟩ := r1
  refine awCall_con [(1000, 1000)] [] (Reader_room rs e most (by omega) hm h1) ?_ ?_ ?_ ?_ ?_; (focus kernel_rfl); (focus exact (.inl rfl)); (focus (simp [go_sem]; done)); (focus (simp [go_sem]; done)); rintro _ rfl; simp (maxSteps := 2000000) (disch := omega) only [go_sem, List.length_map, Int.reduceEq, Int.reduceNe, Nat.reduceBEq, Nat.reduceLT, Nat.reduceLeDiff, Nat.reduceAdd, Nat.reduceSub, Nat.reduceMul, Nat.reduceEqDiff, Int.reduceLT, Int.reduceLE, Int.reduceNeg, Int.reduceToNat, Int.reduceAdd, Int.reduceSub, ↓reduceIte, reduceCtorEq]
  have hnm := (roomR_le h1).2
  have hq1 := (roomR_suf h1).length_le
  dsimp only at hq1
  refine ev_loop (α := List (List UInt8) × Nat × RS) (fun x => ⟨[(0, .v (.func (.yield j) ⟨[]⟩ ⟨[]⟩)), (1, .ptr 103 0), (2, .ptr 104 0), (3, .ptr 105 0), (5, .v (.int .u64 n)), (6, .v (.int .i64 ((n - x.2.1 : Nat) : Int)))],
      (200, .oth (mk .ready none) [.ptr 7 0, .ptr 1000 0, .fn (.func 63) [.ptr 103 0, .ptr 104 0, .ptr 105 0]]) :: ([(1000, .cells [.imm false 1 (rowsB (x.2.2.1)), .v (.int .i64 (x.2.2.2))])] ++ [(103, .cells [.ptr 1000 0]), (104, .cells [.v (.int .i64 most)]), (105, .cells [.fn (.func 36) []]), (7, .cells [.slc 19 1 0 x.1.length]), (19, .cells (cellsT x.1))])⟩)
    (fun x => x.1 ++ (itemsR x.2.1 x.2.2).1 = l ∧ (itemsR x.2.1 x.2.2).2 = (rs2, e2) ∧ x.2.1 ≤ n ∧ x.1.length + x.2.2.1.length ≤ rs.length) (fun x => x.2.1) ([], n, (q1, f1))
    ⟨by rw [h2]; rfl, by rw [h2], Nat.le_refl _, by simpa using hq1⟩ (weak_sub (by simp [envSub, Dk.look]) (by simp [subMem, Dk.find, cellsT_nil])) ?_
  rintro ⟨m, k, q, f⟩ ⟨g1, g2, g3, g4⟩
  dsimp only at g1 g2 g3 g4
  by_cases hk : k = 0
  · subst hk
    simp only [itemsR, List.append_nil, Prod.mk.injEq] at g1 g2
    obtain ⟨rfl, rfl⟩ := g2
    subst g1
    rw [Nat.sub_zero]
    simp (maxSteps := 2000000) (disch := omega) only [go_sem, List.length_map, Int.reduceEq, Int.reduceNe, Nat.reduceBEq, Nat.reduceLT, Nat.reduceLeDiff, Nat.reduceAdd, Nat.reduceSub, Nat.reduceMul, Nat.reduceEqDiff, Int.reduceLT, Int.reduceLE, Int.reduceNeg, Int.reduceToNat, Int.reduceAdd, Int.reduceSub, ↓reduceIte, reduceCtorEq, decide_eq_false (show ¬ (n : Int) < n from by omega)]
    refine ⟨_, Weak.refl _ _, _, .ready, none, .normal, rfl, by decide, rfl, ?_⟩
    by_cases hf : f = 0
    · subst hf
      simp (maxSteps := 2000000) (disch := omega) only [go_sem, List.length_map, Int.reduceEq, Int.reduceNe, Nat.reduceBEq, Nat.reduceLT, Nat.reduceLeDiff, Nat.reduceAdd, Nat.reduceSub, Nat.reduceMul, Nat.reduceEqDiff, Int.reduceLT, Int.reduceLE, Int.reduceNeg, Int.reduceToNat, Int.reduceAdd, Int.reduceSub, ↓reduceIte, reduceCtorEq, List.zip_cons_cons, List.zip_nil_left]
      exact Fin_weak (weak_freeze false 19 rfl (.inl rfl) rfl) (fin_ret (by simp [resA, resL, resOne, Dk.look, frzE, frz, frzIf, frzSl_texts]) (by simp [subMem, Dk.find, Dk.erase, frzM, frzBk, frzL, frz, frzIf]))
    · simp (maxSteps := 2000000) (disch := omega) only [go_sem, List.length_map, Int.reduceEq, Int.reduceNe, Nat.reduceBEq, Nat.reduceLT, Nat.reduceLeDiff, Nat.reduceAdd, Nat.reduceSub, Nat.reduceMul, Nat.reduceEqDiff, Int.reduceLT, Int.reduceLE, Int.reduceNeg, Int.reduceToNat, Int.reduceAdd, Int.reduceSub, ↓reduceIte, reduceCtorEq, List.zip_cons_cons, List.zip_nil_left, hf, decide_eq_false hf]
      exact Fin_weak (weak_put 6 (.imm false 1 []) fun E u h => den_nil_imm h) (fin_ret (by rfl) (by simp [subMem, Dk.find]))
  · obtain ⟨k, rfl⟩ : ∃ k', k = k' + 1 := ⟨k - 1, by omega⟩
    obtain ⟨x, q', f', hx⟩ : ∃ x q' f', textR 9 (q, f) = (x, q', f') := ⟨_, _, _, rfl⟩
    simp only [itemsR, hx] at g1 g2
    by_cases hf : f' = 0
    · subst hf
      rw [if_neg (by simp)] at g1 g2
      simp (maxSteps := 2000000) (disch := omega) only [go_sem, List.length_map, Int.reduceEq, Int.reduceNe, Nat.reduceBEq, Nat.reduceLT, Nat.reduceLeDiff, Nat.reduceAdd, Nat.reduceSub, Nat.reduceMul, Nat.reduceEqDiff, Int.reduceLT, Int.reduceLE, Int.reduceNeg, Int.reduceToNat, Int.reduceAdd, Int.reduceSub, ↓reduceIte, reduceCtorEq, decide_eq_true (show ((n - (k + 1) : Nat) : Int) < n from by omega)]
      have hless := textR_less hx
      refine awCall_con [(1000, 1000)] [] (short q f (by omega) hx) ?_ ?_ ?_ ?_ ?_; (focus kernel_rfl); (focus exact (.inl rfl)); (focus (simp [go_sem]; done)); (focus (simp [go_sem]; done)); rintro _ rfl; simp (maxSteps := 2000000) (disch := omega) only [go_sem, List.length_map, Int.reduceEq, Int.reduceNe, Nat.reduceBEq, Nat.reduceLT, Nat.reduceLeDiff, Nat.reduceAdd, Nat.reduceSub, Nat.reduceMul, Nat.reduceEqDiff, Int.reduceLT, Int.reduceLE, Int.reduceNeg, Int.reduceToNat, Int.reduceAdd, Int.reduceSub, ↓reduceIte, reduceCtorEq]
      refine awYield_con [] [] (round ((n - (k + 1) : Nat) : Int) x m q' 0 (by omega)) ?_ ?_ ?_ ?_ ?_; (focus kernel_rfl); (focus exact (.inl rfl)); (focus (simp [go_sem]; done)); (focus (simp [go_sem]; done)); rintro _ rfl
      simp (maxSteps := 2000000) (disch := omega) only [go_sem, List.length_map, Int.reduceEq, Int.reduceNe, Nat.reduceBEq, Nat.reduceLT, Nat.reduceLeDiff, Nat.reduceAdd, Nat.reduceSub, Nat.reduceMul, Nat.reduceEqDiff, Int.reduceLT, Int.reduceLE, Int.reduceNeg, Int.reduceToNat, Int.reduceAdd, Int.reduceSub, ↓reduceIte, reduceCtorEq]
      refine ⟨(m ++ [x], k, (q', 0)), ⟨by simpa using g1, by simpa using g2, by simp only; omega, by simp only [List.length_append, List.length_cons, List.length_nil]; omega⟩, by simp only; omega, ?_⟩
      have e1 : ((n - (k + 1) : Nat) : Int) + 1 = ((n - k : Nat) : Int) := by omega
      rw [e1]
      exact weak_sub (by simp [envSub, Dk.look]) (by simp [subMem, Dk.find])
    · rw [if_pos hf] at g1 g2
      simp only [List.append_nil, Prod.mk.injEq] at g1 g2
      obtain ⟨rfl, rfl⟩ := g2
      subst g1
      simp (maxSteps := 2000000) (disch := omega) only [go_sem, List.length_map, Int.reduceEq, Int.reduceNe, Nat.reduceBEq, Nat.reduceLT, Nat.reduceLeDiff, Nat.reduceAdd, Nat.reduceSub, Nat.reduceMul, Nat.reduceEqDiff, Int.reduceLT, Int.reduceLE, Int.reduceNeg, Int.reduceToNat, Int.reduceAdd, Int.reduceSub, ↓reduceIte, reduceCtorEq, decide_eq_true (show ((n - (k + 1) : Nat) : Int) < n from by omega)]
      refine awCall_con [(1000, 1000)] [] (short q f (by omega) hx) ?_ ?_ ?_ ?_ ?_; (focus kernel_rfl); (focus exact (.inl rfl)); (focus (simp [go_sem]; done)); (focus (simp [go_sem]; done)); rintro _ rfl; simp (maxSteps := 2000000) (disch := omega) only [go_sem, List.length_map, Int.reduceEq, Int.reduceNe, Nat.reduceBEq, Nat.reduceLT, Nat.reduceLeDiff, Nat.reduceAdd, Nat.reduceSub, Nat.reduceMul, Nat.reduceEqDiff, Int.reduceLT, Int.reduceLE, Int.reduceNeg, Int.reduceToNat, Int.reduceAdd, Int.reduceSub, ↓reduceIte, reduceCtorEq]
      simp (maxSteps := 2000000) (disch := omega) only [go_sem, List.length_map, Int.reduceEq, Int.reduceNe, Nat.reduceBEq, Nat.reduceLT, Nat.reduceLeDiff, Nat.reduceAdd, Nat.reduceSub, Nat.reduceMul, Nat.reduceEqDiff, Int.reduceLT, Int.reduceLE, Int.reduceNeg, Int.reduceToNat, Int.reduceAdd, Int.reduceSub, ↓reduceIte, reduceCtorEq, hf, decide_eq_false hf]
      refine ⟨_, Weak.refl _ _, _, .ready, none, .normal, rfl, by decide, rfl, ?_⟩
      simp (maxSteps := 2000000) (disch := omega) only [go_sem, List.length_map, Int.reduceEq, Int.reduceNe, Nat.reduceBEq, Nat.reduceLT, Nat.reduceLeDiff, Nat.reduceAdd, Nat.reduceSub, Nat.reduceMul, Nat.reduceEqDiff, Int.reduceLT, Int.reduceLE, Int.reduceNeg, Int.reduceToNat, Int.reduceAdd, Int.reduceSub, ↓reduceIte, reduceCtorEq, List.zip_cons_cons, List.zip_nil_left, hf, decide_eq_false hf]
      exact Fin_weak (weak_put 6 (.imm false 1 []) fun E u h => den_nil_imm h) (fin_ret (by rfl) (by simp [subMem, Dk.find]))
end Go.Proofs.Ytjmkgpkgagohoaa
