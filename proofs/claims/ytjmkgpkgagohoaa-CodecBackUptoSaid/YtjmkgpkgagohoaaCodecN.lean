/-
  CodecN: contracts of functions of the program, and what follows from them.
-/
import Derived.Test.YtjmkgpkgagohoaaTyCodec
import Derived.Test.YtjmkgpkgagohoaaCodecM
import Derived.Test.YtjmkgpkgagohoaaCodecK
set_option linter.all false
namespace Go.Proofs.Ytjmkgpkgagohoaa
open Go Go.Dk
set_option linter.unusedSimpArgs false
set_option linter.unusedVariables false
set_option maxRecDepth 10000
set_option maxHeartbeats 4000000
set_option pp.deepTerms true
set_option pp.maxSteps 1000000

theorem outs_drop (l : List Thing) (i : Nat) (t : Thing) (h : l[i]? = some t) : outs (l.drop i) = t.out ++ outs (l.drop (i + 1)) := by
  obtain ⟨hi, rfl⟩ := List.getElem?_eq_some_iff.1 h
  rw [List.drop_eq_getElem_cons hi]; rfl
theorem outs_dropLen (l : List Thing) (i : Nat) : (outs (l.drop i)).length ≤ (outs l).length := by
  have h : outs l = outs (l.take i) ++ outs (l.drop i) := by
    rw [outs, outs, outs, ← List.flatMap_append, List.take_append_drop]
  rw [h, List.length_append]; omega
theorem chunk_take (l : List UInt8) (c : Nat) (h : c ≤ l.length) : chunk 1 c ((l.map fun b => Dat.v (.int .u8 (b.toNat : Int))).take c) = rowsB (l.take c) := by
  have := chunk_cellsB (l.take c)
  rwa [List.length_take, Nat.min_eq_left h, List.map_take] at this
theorem backs_take (l : List Thing) (i : Nat) (t : Thing) (r : RS) (h : l[i]? = some t) : backsR (l.take (i + 1)) r = (backR t (backsR (l.take i) r)).2 := by
  rw [List.take_add_one, h]; simp [backsR]
theorem back_len (t : Thing) (r : RS) : (backR t r).2.1.length ≤ r.1.length := by
  unfold backR
  repeat' split
  · exact (highR_suf rfl).length_le
  · exact (highR_suf rfl).length_le
  · exact (highR_suf rfl).length_le
  · exact (varR_suf rfl).length_le
  · exact (rawR_suf (k := t.b.length) (r := r) (l := (rawR t.b.length r).1) (rs := (rawR t.b.length r).2.1) (e := (rawR t.b.length r).2.2) rfl).length_le
  · exact textR_len _ _
  · exact Nat.le_refl _
theorem backs_len : ∀ (l : List Thing) (r : RS), (backsR l r).1.length ≤ r.1.length
  | [], r => Nat.le_refl _
  | t :: l, r => Nat.le_trans (backs_len l _) (back_len t r)

theorem bulk_mem (l : List Thing) (t : Thing) (h : t ∈ l) : t.b.length ≤ bulks bulkT l := by
  obtain ⟨i, hi⟩ := List.mem_iff_getElem?.1 h
  exact bulk_one l i t hi
theorem CodecBack (l : List Thing) (cut : Int) (ht : ∀ t ∈ l, t.ok) (hl : bulks bulkT l < 10000000000) (hn : l.length < 10000000000) (hc : -9223372036854775808 ≤ cut ∧ cut ≤ 9223372036854775807) :
    (Con.mk [.imm false 4 (l.map Thing.dat), .v (.int .i64 cut)] [] [] (.v (.bool true)) []).ok Try.prog 6 := by
  refine ⟨?_, by simp [Con.wf, ids, inA, inM, inB, inL_nil, inL_cons, inL_append, inL_cellsB, inL_dat]⟩
  have hol := outs_len l
  refine con_of_ev true [0, 1, 4, 5, 7, 8, 9, 11, 12, 14, 21, 22, 23, 24, 25, 37, 38, 39, 40, 41, 52, 61, 69, 74, 75, 76, 77] 92 Try.func6 (code := _) rfl rfl Try.ntmps6 (by simp) [.tmp 4] (by rw [Try.results6]) ?_
  simp (maxSteps := 2000000) (disch := omega) only [go_sem, List.length_map, Int.reduceEq, Int.reduceNe, Nat.reduceBEq, Nat.reduceLT, Nat.reduceLeDiff, Nat.reduceAdd, Nat.reduceSub, Nat.reduceMul, Nat.reduceEqDiff, Int.reduceLT, Int.reduceLE, Int.reduceNeg, Int.reduceToNat, Int.reduceAdd, Int.reduceSub, ↓reduceIte, reduceCtorEq]
  refine awCall_con [(2, 100), (3, 101)] [] (New) ?_ ?_ ?_ ?_ ?_; (focus kernel_rfl); (focus exact (.inl rfl)); (focus (simp [go_sem]; done)); (focus (simp [go_sem]; done)); rintro _ rfl; simp (maxSteps := 2000000) (disch := omega) only [go_sem, List.length_map, Int.reduceEq, Int.reduceNe, Nat.reduceBEq, Nat.reduceLT, Nat.reduceLeDiff, Nat.reduceAdd, Nat.reduceSub, Nat.reduceMul, Nat.reduceEqDiff, Int.reduceLT, Int.reduceLE, Int.reduceNeg, Int.reduceToNat, Int.reduceAdd, Int.reduceSub, ↓reduceIte, reduceCtorEq]
  refine awCall_con [] [] (alive) ?_ ?_ ?_ ?_ ?_; (focus kernel_rfl); (focus exact (.inl rfl)); (focus (simp [go_sem]; done)); (focus (simp [go_sem]; done)); rintro _ rfl; simp (maxSteps := 2000000) (disch := omega) only [go_sem, List.length_map, Int.reduceEq, Int.reduceNe, Nat.reduceBEq, Nat.reduceLT, Nat.reduceLeDiff, Nat.reduceAdd, Nat.reduceSub, Nat.reduceMul, Nat.reduceEqDiff, Int.reduceLT, Int.reduceLE, Int.reduceNeg, Int.reduceToNat, Int.reduceAdd, Int.reduceSub, ↓reduceIte, reduceCtorEq]
  refine ev_loop (α := Nat) (fun i => ⟨[(0, .imm false 4 (l.map Thing.dat)), (1, .v (.int .i64 cut)), (5, .ptr 100 0), (22, .imm false 4 (l.map Thing.dat)), (23, .v (.int .i64 l.length)), (24, .v (.int .i64 (i : Int)))],
      [(100, .cells [.slc 101 1 0 (outs (l.take i)).length]), (101, .cells (cellsB (outs (l.take i))))]⟩)
    (fun i => i ≤ l.length) (fun i => l.length - i) 0 (Nat.zero_le _) (weak_sub (by simp [envSub, Dk.look, outs]) (by simp [subMem, Dk.find, outs, cellsB_nil])) ?_
  intro i hi
  have hb1 := outs_bulk l i
  by_cases h : i < l.length
  · have h' : (i : Int) < l.length := by omega
    obtain ⟨t, hg⟩ : ∃ t, l[i]? = some t := ⟨_, List.getElem?_eq_getElem h⟩
    have hg' : (l.map Thing.dat)[i]? = some t.dat := by rw [List.getElem?_map, hg]; rfl
    have htb := bulk_one l i t hg
    have hto := ht t (List.mem_of_getElem? hg)
    simp (maxSteps := 2000000) (disch := omega) only [go_sem, List.length_map, Int.reduceEq, Int.reduceNe, Nat.reduceBEq, Nat.reduceLT, Nat.reduceLeDiff, Nat.reduceAdd, Nat.reduceSub, Nat.reduceMul, Nat.reduceEqDiff, Int.reduceLT, Int.reduceLE, Int.reduceNeg, Int.reduceToNat, Int.reduceAdd, Int.reduceSub, ↓reduceIte, reduceCtorEq, h', hg', Thing.dat]
    refine awCall_con [(1000, 100), (1001, 101)] [] (Write (outs (l.take i)) t hto (by omega)) ?_ ?_ ?_ ?_ ?_; (focus kernel_rfl); (focus exact (.inl rfl)); (focus (simp [go_sem]; done)); (focus (simp [go_sem]; done)); rintro _ rfl; simp (maxSteps := 2000000) (disch := omega) only [go_sem, List.length_map, Int.reduceEq, Int.reduceNe, Nat.reduceBEq, Nat.reduceLT, Nat.reduceLeDiff, Nat.reduceAdd, Nat.reduceSub, Nat.reduceMul, Nat.reduceEqDiff, Int.reduceLT, Int.reduceLE, Int.reduceNeg, Int.reduceToNat, Int.reduceAdd, Int.reduceSub, ↓reduceIte, reduceCtorEq]
    refine ⟨i + 1, h, by omega, ?_⟩
    rw [outs_take l i t hg]
    exact weak_sub (by simp [envSub, Dk.look]) (by simp [subMem, Dk.find])
  · obtain rfl : i = l.length := by omega
    rw [List.take_length] at *
    have h' : ¬ (l.length : Int) < l.length := by omega
    simp (maxSteps := 2000000) (disch := omega) only [go_sem, List.length_map, Int.reduceEq, Int.reduceNe, Nat.reduceBEq, Nat.reduceLT, Nat.reduceLeDiff, Nat.reduceAdd, Nat.reduceSub, Nat.reduceMul, Nat.reduceEqDiff, Int.reduceLT, Int.reduceLE, Int.reduceNeg, Int.reduceToNat, Int.reduceAdd, Int.reduceSub, ↓reduceIte, reduceCtorEq, h']
    refine awCall_con [(1000, 100), (1001, 101), (7, 102)] [] (Writer_Bytes (outs l) (by omega)) ?_ ?_ ?_ ?_ ?_; (focus kernel_rfl); (focus exact (.inl rfl)); (focus (simp [go_sem]; done)); (focus (simp [go_sem]; done)); rintro _ rfl; simp (maxSteps := 2000000) (disch := omega) only [go_sem, List.length_map, Int.reduceEq, Int.reduceNe, Nat.reduceBEq, Nat.reduceLT, Nat.reduceLeDiff, Nat.reduceAdd, Nat.reduceSub, Nat.reduceMul, Nat.reduceEqDiff, Int.reduceLT, Int.reduceLE, Int.reduceNeg, Int.reduceToNat, Int.reduceAdd, Int.reduceSub, ↓reduceIte, reduceCtorEq]
    refine awCall_con [(6, 200)] [102] (Read (outs l) (by omega)) ?_ ?_ ?_ ?_ ?_; (focus kernel_rfl); (focus exact (.inr ⟨by simp [AV.strong, strongL], by simp [strongM, strongB, strongL, strongL_cellsB, AV.strong]⟩)); (focus (simp [go_sem, datsL_cellsB, chunk_cellsB]; done)); (focus (simp [go_sem, datsL_cellsB, chunk_cellsB]; done)); rintro _ rfl; simp (maxSteps := 2000000) (disch := omega) only [go_sem, List.length_map, Int.reduceEq, Int.reduceNe, Nat.reduceBEq, Nat.reduceLT, Nat.reduceLeDiff, Nat.reduceAdd, Nat.reduceSub, Nat.reduceMul, Nat.reduceEqDiff, Int.reduceLT, Int.reduceLE, Int.reduceNeg, Int.reduceToNat, Int.reduceAdd, Int.reduceSub, ↓reduceIte, reduceCtorEq]
    refine ev_loop (α := Nat) (fun i => ⟨[(0, .imm false 4 (l.map Thing.dat)), (1, .v (.int .i64 cut)), (9, .ptr 200 0), (8, .slc 102 1 0 (outs l).length), (38, .imm false 4 (l.map Thing.dat)), (39, .v (.int .i64 l.length)), (40, .v (.int .i64 (i : Int)))],
        [(200, .cells [.imm false 1 (rowsB (outs (l.drop i))), .v (.int .i64 (0))])] ++ [(102, .cells (cellsB (outs l)))]⟩)
      (fun i => i ≤ l.length) (fun i => l.length - i) 0 (Nat.zero_le _) (Weak.trans (weak_soft 200 rfl) (weak_sub (by simp [envSub, Dk.look]) (by simp [subMem, Dk.find, Dk.put, Dk.erase, soft]))) ?_
    intro i hi
    have hb1 := outs_dropLen l i
    by_cases h : i < l.length
    · have h' : (i : Int) < l.length := by omega
      obtain ⟨t, hg⟩ : ∃ t, l[i]? = some t := ⟨_, List.getElem?_eq_getElem h⟩
      have hg' : (l.map Thing.dat)[i]? = some t.dat := by rw [List.getElem?_map, hg]; rfl
      have htb := bulk_one l i t hg
      have hto := ht t (List.mem_of_getElem? hg)
      have hbk := back_out t hto (by omega) (outs (l.drop (i + 1)))
      rw [← outs_drop l i t hg] at hbk
      simp (maxSteps := 2000000) (disch := omega) only [go_sem, List.length_map, Int.reduceEq, Int.reduceNe, Nat.reduceBEq, Nat.reduceLT, Nat.reduceLeDiff, Nat.reduceAdd, Nat.reduceSub, Nat.reduceMul, Nat.reduceEqDiff, Int.reduceLT, Int.reduceLE, Int.reduceNeg, Int.reduceToNat, Int.reduceAdd, Int.reduceSub, ↓reduceIte, reduceCtorEq, h', hg', Thing.dat]
      refine awCall_con [(1000, 200)] [] (Back (outs (l.drop i)) 0 t hto (by omega) (by omega) hbk) ?_ ?_ ?_ ?_ ?_; (focus kernel_rfl); (focus exact (.inl rfl)); (focus (simp [go_sem]; done)); (focus (simp [go_sem]; done)); rintro _ rfl; simp (maxSteps := 2000000) (disch := omega) only [go_sem, List.length_map, Int.reduceEq, Int.reduceNe, Nat.reduceBEq, Nat.reduceLT, Nat.reduceLeDiff, Nat.reduceAdd, Nat.reduceSub, Nat.reduceMul, Nat.reduceEqDiff, Int.reduceLT, Int.reduceLE, Int.reduceNeg, Int.reduceToNat, Int.reduceAdd, Int.reduceSub, ↓reduceIte, reduceCtorEq]
      refine awCall_con [(1000, 200)] [] (Reader_Err (outs (l.drop (i + 1))) 0) ?_ ?_ ?_ ?_ ?_; (focus kernel_rfl); (focus exact (.inl rfl)); (focus (simp [go_sem]; done)); (focus (simp [go_sem]; done)); rintro _ rfl; simp (maxSteps := 2000000) (disch := omega) only [go_sem, List.length_map, Int.reduceEq, Int.reduceNe, Nat.reduceBEq, Nat.reduceLT, Nat.reduceLeDiff, Nat.reduceAdd, Nat.reduceSub, Nat.reduceMul, Nat.reduceEqDiff, Int.reduceLT, Int.reduceLE, Int.reduceNeg, Int.reduceToNat, Int.reduceAdd, Int.reduceSub, ↓reduceIte, reduceCtorEq]
      exact ⟨i + 1, h, by omega, weak_sub (by simp [envSub, Dk.look]) (by simp [subMem, Dk.find])⟩
    · obtain rfl : i = l.length := by omega
      rw [List.drop_length, show outs ([] : List Thing) = [] from rfl]
      have h' : ¬ (l.length : Int) < l.length := by omega
      simp (maxSteps := 2000000) (disch := omega) only [go_sem, List.length_map, Int.reduceEq, Int.reduceNe, Nat.reduceBEq, Nat.reduceLT, Nat.reduceLeDiff, Nat.reduceAdd, Nat.reduceSub, Nat.reduceMul, Nat.reduceEqDiff, Int.reduceLT, Int.reduceLE, Int.reduceNeg, Int.reduceToNat, Int.reduceAdd, Int.reduceSub, ↓reduceIte, reduceCtorEq, h']
      refine awCall_con [(1000, 200)] [] (Reader_End' [] 0 (e2 := 0) (by simp)) ?_ ?_ ?_ ?_ ?_; (focus kernel_rfl); (focus exact (.inl rfl)); (focus (simp [go_sem]; done)); (focus (simp [go_sem]; done)); rintro _ rfl; simp (maxSteps := 2000000) (disch := omega) only [go_sem, List.length_map, Int.reduceEq, Int.reduceNe, Nat.reduceBEq, Nat.reduceLT, Nat.reduceLeDiff, Nat.reduceAdd, Nat.reduceSub, Nat.reduceMul, Nat.reduceEqDiff, Int.reduceLT, Int.reduceLE, Int.reduceNeg, Int.reduceToNat, Int.reduceAdd, Int.reduceSub, ↓reduceIte, reduceCtorEq]
      refine awCall_con [(1000, 200)] [] (Reader_Left [] 0) ?_ ?_ ?_ ?_ ?_; (focus kernel_rfl); (focus exact (.inl rfl)); (focus (simp [go_sem]; done)); (focus (simp [go_sem]; done)); rintro _ rfl; simp (maxSteps := 2000000) (disch := omega) only [go_sem, List.length_map, Int.reduceEq, Int.reduceNe, Nat.reduceBEq, Nat.reduceLT, Nat.reduceLeDiff, Nat.reduceAdd, Nat.reduceSub, Nat.reduceMul, Nat.reduceEqDiff, Int.reduceLT, Int.reduceLE, Int.reduceNeg, Int.reduceToNat, Int.reduceAdd, Int.reduceSub, ↓reduceIte, reduceCtorEq]
      by_cases g1 : cut < 0
      · simp (maxSteps := 2000000) (disch := omega) only [go_sem, List.length_map, Int.reduceEq, Int.reduceNe, Nat.reduceBEq, Nat.reduceLT, Nat.reduceLeDiff, Nat.reduceAdd, Nat.reduceSub, Nat.reduceMul, Nat.reduceEqDiff, Int.reduceLT, Int.reduceLE, Int.reduceNeg, Int.reduceToNat, Int.reduceAdd, Int.reduceSub, ↓reduceIte, reduceCtorEq, decide_eq_true g1]
        exact fin_ret (by rfl) (by simp [subMem])
      · obtain ⟨c, rfl⟩ : ∃ c : Nat, cut = c := ⟨cut.toNat, by omega⟩
        by_cases g2 : (outs l).length ≤ c
        · simp (maxSteps := 2000000) (disch := omega) only [go_sem, List.length_map, Int.reduceEq, Int.reduceNe, Nat.reduceBEq, Nat.reduceLT, Nat.reduceLeDiff, Nat.reduceAdd, Nat.reduceSub, Nat.reduceMul, Nat.reduceEqDiff, Int.reduceLT, Int.reduceLE, Int.reduceNeg, Int.reduceToNat, Int.reduceAdd, Int.reduceSub, ↓reduceIte, reduceCtorEq, decide_eq_false g1, decide_eq_true (show ((outs l).length : Int) ≤ (c : Int) from by omega)]
          exact fin_ret (by rfl) (by simp [subMem])
        · simp (maxSteps := 2000000) (disch := omega) only [go_sem, List.length_map, Int.reduceEq, Int.reduceNe, Nat.reduceBEq, Nat.reduceLT, Nat.reduceLeDiff, Nat.reduceAdd, Nat.reduceSub, Nat.reduceMul, Nat.reduceEqDiff, Int.reduceLT, Int.reduceLE, Int.reduceNeg, Int.reduceToNat, Int.reduceAdd, Int.reduceSub, ↓reduceIte, reduceCtorEq, decide_eq_false g1, decide_eq_false (show ¬ ((outs l).length : Int) ≤ (c : Int) from by omega)]
          have hch := chunk_take (outs l) c (by omega)
          have g3 : c ≤ (outs l).length := by omega
          refine awCall_con [(6, 300)] [102] (Read ((outs l).take c) (by simp; omega)) ?_ ?_ ?_ ?_ ?_; (focus kernel_rfl); (focus exact (.inr ⟨by simp [AV.strong, strongL], by simp [strongM, strongB, strongL, strongL_cellsB, AV.strong]⟩)); (focus (simp [go_sem, viewIn, datsL_cellsB, hch, g3]; done)); (focus (simp [go_sem, viewIn, datsL_cellsB, hch, g3]; done)); rintro _ rfl; simp (maxSteps := 2000000) (disch := omega) only [go_sem, List.length_map, Int.reduceEq, Int.reduceNe, Nat.reduceBEq, Nat.reduceLT, Nat.reduceLeDiff, Nat.reduceAdd, Nat.reduceSub, Nat.reduceMul, Nat.reduceEqDiff, Int.reduceLT, Int.reduceLE, Int.reduceNeg, Int.reduceToNat, Int.reduceAdd, Int.reduceSub, ↓reduceIte, reduceCtorEq]
          refine ev_loop (α := Nat) (fun i => ⟨[(12, .ptr 300 0), (74, .imm false 4 (l.map Thing.dat)), (75, .v (.int .i64 l.length)), (76, .v (.int .i64 (i : Int)))],
              [(300, .cells [.imm false 1 (rowsB ((backsR (l.take i) ((outs l).take c, 0)).1)), .v (.int .i64 ((backsR (l.take i) ((outs l).take c, 0)).2))])]⟩)
            (fun i => i ≤ l.length) (fun i => l.length - i) 0 (Nat.zero_le _) (Weak.trans (weak_soft 300 rfl) (weak_sub (by simp [envSub, Dk.look]) (by simp [subMem, Dk.find, Dk.put, Dk.erase, soft, backsR]))) ?_
          intro i hi
          have hb2 := backs_len (l.take i) ((outs l).take c, 0)
          have hb3 : ((outs l).take c).length ≤ (outs l).length := by simp; omega
          by_cases h : i < l.length
          · have h' : (i : Int) < l.length := by omega
            obtain ⟨t, hg⟩ : ∃ t, l[i]? = some t := ⟨_, List.getElem?_eq_getElem h⟩
            have hg' : (l.map Thing.dat)[i]? = some t.dat := by rw [List.getElem?_map, hg]; rfl
            have htb := bulk_one l i t hg
            have hto := ht t (List.mem_of_getElem? hg)
            have hbt := backs_take l i t ((outs l).take c, 0) hg
            obtain ⟨rs2, e2, hr2⟩ : ∃ rs2 e2, backsR (l.take (i + 1)) ((outs l).take c, 0) = (rs2, e2) := ⟨_, _, rfl⟩
            rw [hr2] at hbt
            generalize backsR (l.take i) ((outs l).take c, 0) = r1 at hb2 hbt ⊢
            obtain ⟨rs, e⟩ := r1
            dsimp only at hb2
            simp (maxSteps := 2000000) (disch := omega) only [go_sem, List.length_map, Int.reduceEq, Int.reduceNe, Nat.reduceBEq, Nat.reduceLT, Nat.reduceLeDiff, Nat.reduceAdd, Nat.reduceSub, Nat.reduceMul, Nat.reduceEqDiff, Int.reduceLT, Int.reduceLE, Int.reduceNeg, Int.reduceToNat, Int.reduceAdd, Int.reduceSub, ↓reduceIte, reduceCtorEq, h', hg', Thing.dat]
            refine awCall_con [(1000, 300)] [] (Back rs e t hto (by omega) (by omega) (r := (backR t (rs, e)).1) (rs2 := rs2) (e2 := e2) (Prod.ext rfl hbt.symm)) ?_ ?_ ?_ ?_ ?_; (focus kernel_rfl); (focus exact (.inl rfl)); (focus (simp [go_sem]; done)); (focus (simp [go_sem]; done)); rintro _ rfl; simp (maxSteps := 2000000) (disch := omega) only [go_sem, List.length_map, Int.reduceEq, Int.reduceNe, Nat.reduceBEq, Nat.reduceLT, Nat.reduceLeDiff, Nat.reduceAdd, Nat.reduceSub, Nat.reduceMul, Nat.reduceEqDiff, Int.reduceLT, Int.reduceLE, Int.reduceNeg, Int.reduceToNat, Int.reduceAdd, Int.reduceSub, ↓reduceIte, reduceCtorEq]
            refine ⟨i + 1, h, by omega, ?_⟩
            rw [hr2]
            exact weak_sub (by simp [envSub, Dk.look]) (by simp [subMem, Dk.find])
          · obtain rfl : i = l.length := by omega
            have h' : ¬ (l.length : Int) < l.length := by omega
            have hcut := cut_err l (fun t h => ⟨ht t h, by have := bulk_mem l t h; omega⟩) ((outs l).take c) (List.take_prefix _ _) (by show ((outs l).take c).length < (outs l).length; simp; omega)
            rw [List.take_length] at *
            generalize backsR l ((outs l).take c, 0) = r1 at *
            obtain ⟨rs, e⟩ := r1
            dsimp only at hcut
            subst hcut
            simp (maxSteps := 2000000) (disch := omega) only [go_sem, List.length_map, Int.reduceEq, Int.reduceNe, Nat.reduceBEq, Nat.reduceLT, Nat.reduceLeDiff, Nat.reduceAdd, Nat.reduceSub, Nat.reduceMul, Nat.reduceEqDiff, Int.reduceLT, Int.reduceLE, Int.reduceNeg, Int.reduceToNat, Int.reduceAdd, Int.reduceSub, ↓reduceIte, reduceCtorEq, h']
            refine awCall_con [(1000, 300)] [] (Reader_Err rs 10) ?_ ?_ ?_ ?_ ?_; (focus kernel_rfl); (focus exact (.inl rfl)); (focus (simp [go_sem]; done)); (focus (simp [go_sem]; done)); rintro _ rfl; simp (maxSteps := 2000000) (disch := omega) only [go_sem, List.length_map, Int.reduceEq, Int.reduceNe, Nat.reduceBEq, Nat.reduceLT, Nat.reduceLeDiff, Nat.reduceAdd, Nat.reduceSub, Nat.reduceMul, Nat.reduceEqDiff, Int.reduceLT, Int.reduceLE, Int.reduceNeg, Int.reduceToNat, Int.reduceAdd, Int.reduceSub, ↓reduceIte, reduceCtorEq]
            refine awCall_con [(1000, 300)] [] (Reader_End' rs 10 (e2 := 10) (by simp)) ?_ ?_ ?_ ?_ ?_; (focus kernel_rfl); (focus exact (.inl rfl)); (focus (simp [go_sem]; done)); (focus (simp [go_sem]; done)); rintro _ rfl; simp (maxSteps := 2000000) (disch := omega) only [go_sem, List.length_map, Int.reduceEq, Int.reduceNe, Nat.reduceBEq, Nat.reduceLT, Nat.reduceLeDiff, Nat.reduceAdd, Nat.reduceSub, Nat.reduceMul, Nat.reduceEqDiff, Int.reduceLT, Int.reduceLE, Int.reduceNeg, Int.reduceToNat, Int.reduceAdd, Int.reduceSub, ↓reduceIte, reduceCtorEq]
            exact fin_ret (by rfl) (by simp [subMem])
end Go.Proofs.Ytjmkgpkgagohoaa
