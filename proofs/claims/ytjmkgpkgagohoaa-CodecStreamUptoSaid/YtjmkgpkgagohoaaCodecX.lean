/-
  CodecX: contracts of functions of the program, and what follows from them.
-/
import Derived.Test.YtjmkgpkgagohoaaTyCodec
import Derived.Test.YtjmkgpkgagohoaaCodecW
import Derived.Test.YtjmkgpkgagohoaaCodecL
set_option linter.all false
namespace Go.Proofs.Ytjmkgpkgagohoaa
open Go Go.Dk
set_option linter.unusedSimpArgs false
set_option linter.unusedVariables false
set_option maxRecDepth 10000
set_option maxHeartbeats 4000000
set_option pp.deepTerms true
set_option pp.maxSteps 1000000

def frs (l : List (List UInt8)) : List UInt8 := l.flatMap frameB
theorem frs_take (l : List (List UInt8)) (i : Nat) (t : List UInt8) (h : l[i]? = some t) : frs (l.take (i + 1)) = frs (l.take i) ++ frameB t := by
  rw [List.take_add_one, h]; simp [frs]
theorem frs_len : ∀ l : List (List UInt8), (frs l).length ≤ 12 * bulks bulkB l
  | [] => by simp [frs]
  | t :: l => by
    have h1 := frs_len l
    have h2 := frameB_length t
    have h4 : (frs (t :: l)).length = (frameB t).length + (frs l).length := by simp [frs]
    have h5 : bulks bulkB (t :: l) = t.length + 1 + bulks bulkB l := rfl
    omega
theorem frs_bulk (l : List (List UInt8)) (i : Nat) : (frs (l.take i)).length ≤ 12 * bulks bulkB l := Nat.le_trans (frs_len _) (Nat.mul_le_mul_left _ (bulksL_take _ _))
theorem frs_split (l : List (List UInt8)) (i : Nat) : frs l = frs (l.take i) ++ frs (l.drop i) := by
  rw [frs, frs, frs, ← List.flatMap_append, List.take_append_drop]
theorem frs_mono (l : List (List UInt8)) (i j : Nat) (h : i ≤ j) : (frs (l.take i)).length ≤ (frs (l.take j)).length := by
  rw [frs_split (l.take j) i, List.take_take, Nat.min_eq_left h, List.length_append]; omega
theorem frs_drop (l : List (List UInt8)) (i : Nat) (t : List UInt8) (h : l[i]? = some t) : frs (l.drop i) = frameB t ++ frs (l.drop (i + 1)) := by
  obtain ⟨hi, rfl⟩ := List.getElem?_eq_some_iff.1 h
  rw [List.drop_eq_getElem_cons hi]; rfl

theorem chunk_part (l : List UInt8) (p k : Nat) (h : p + k ≤ l.length) : chunk 1 k (((l.map fun b => Dat.v (.int .u8 (b.toNat : Int))).drop p).take k) = rowsB ((l.drop p).take k) := by
  rw [← List.map_drop]
  exact chunk_take' (l.drop p) k (by simp; omega)

theorem CodecStream (l : List (List UInt8)) (cut : Int) (hl : bulks bulkB l < 100000000) (hc : -9223372036854775808 ≤ cut ∧ cut ≤ 9223372036854775807) :
    (Con.mk [.imm false 1 (l.map rowT), .v (.int .i64 cut)] [] [] (.v (.bool true)) []).ok Try.prog 13 := by
  refine ⟨?_, by simp [Con.wf, ids, inA, inM, inB, inL_nil, inL_cons, inL_append, inL_cellsB, inL_dat]⟩
  have hln := bulkL_len l
  refine con_of_ev true [0, 1, 4, 5, 6, 7, 9, 10, 11, 12, 13, 14, 15, 16, 19, 20, 21, 22, 23, 32, 44, 57, 59, 60, 61, 82] 106 Try.func13 (code := _) rfl rfl Try.ntmps13 (by simp) [.tmp 4] (by rw [Try.results13]) ?_
  simp (maxSteps := 2000000) (disch := omega) only [go_sem, List.length_map, Int.reduceEq, Int.reduceNe, Nat.reduceBEq, Nat.reduceLT, Nat.reduceLeDiff, Nat.reduceAdd, Nat.reduceSub, Nat.reduceMul, Nat.reduceEqDiff, Int.reduceLT, Int.reduceLE, Int.reduceNeg, Int.reduceToNat, Int.reduceAdd, Int.reduceSub, ↓reduceIte, reduceCtorEq]
  refine ev_loop (α := Nat × Nat) (fun x => ⟨[(0, .imm false 1 (l.map rowT)), (1, .v (.int .i64 cut)), (20, .imm false 1 (l.map rowT)), (21, .v (.int .i64 l.length)), (22, .v (.int .i64 (x.1 : Int))),
      (5, .slc 40 1 0 (frs (l.take x.1)).length), (6, .v (.int .i64 (x.2 : Int))), (7, .v (.int .i64 (((frs (l.take x.2)).length : Nat) : Int)))], [(40, .cells (cellsB (frs (l.take x.1))))]⟩)
    (fun x => x.1 ≤ l.length ∧ x.2 ≤ x.1 ∧ (x.2 < x.1 → cut < (((frs (l.take (x.2 + 1))).length : Nat) : Int)) ∧ (0 < x.2 → (((frs (l.take x.2)).length : Nat) : Int) ≤ cut) ∧ ∀ t ∈ l.take x.1, t.length ≤ 16777216) (fun x => l.length - x.1) (0, 0)
    ⟨Nat.zero_le _, Nat.le_refl _, fun h => by omega, fun h => by omega, by simp⟩
    (Weak.trans (weak_nil 5 40 1 rfl rfl rfl rfl) (weak_sub (by simp [envSub, Dk.look, putE, eraseE, frs]) (by simp [subMem, Dk.find, cellsB_nil, frs]))) ?_
  rintro ⟨i, w⟩ ⟨hi, hw, h1, h2, h3⟩
  dsimp only at hi hw h1 h2 h3
  have hb1 := frs_bulk l i
  by_cases h : i < l.length
  · have h' : (i : Int) < l.length := by omega
    obtain ⟨t, hg⟩ : ∃ t, l[i]? = some t := ⟨_, List.getElem?_eq_getElem h⟩
    have hg' : (l.map rowT)[i]? = some (rowT t) := by rw [List.getElem?_map, hg]; rfl
    have htb := bulkL_one l i t hg
    have hft := frs_take l i t hg
    have hfl := frameB_length t
    by_cases c0 : 16777216 < t.length
    · have hf : frameF t = ([], 12) := if_pos c0
      simp (maxSteps := 2000000) (disch := omega) only [go_sem, List.length_map, Int.reduceEq, Int.reduceNe, Nat.reduceBEq, Nat.reduceLT, Nat.reduceLeDiff, Nat.reduceAdd, Nat.reduceSub, Nat.reduceMul, Nat.reduceEqDiff, Int.reduceLT, Int.reduceLE, Int.reduceNeg, Int.reduceToNat, Int.reduceAdd, Int.reduceSub, ↓reduceIte, reduceCtorEq, h', hg', rowT]
      refine awCall_con [(102, 200)] [] (Frame t (by omega) hf) ?_ ?_ ?_ ?_ ?_; (focus kernel_rfl); (focus exact (.inl rfl)); (focus (simp [go_sem]; done)); (focus (simp [go_sem]; done)); rintro _ rfl; simp (maxSteps := 2000000) (disch := omega) only [go_sem, List.length_map, Int.reduceEq, Int.reduceNe, Nat.reduceBEq, Nat.reduceLT, Nat.reduceLeDiff, Nat.reduceAdd, Nat.reduceSub, Nat.reduceMul, Nat.reduceEqDiff, Int.reduceLT, Int.reduceLE, Int.reduceNeg, Int.reduceToNat, Int.reduceAdd, Int.reduceSub, ↓reduceIte, reduceCtorEq]
      refine awCall_con [] [] (alive) ?_ ?_ ?_ ?_ ?_; (focus kernel_rfl); (focus exact (.inl rfl)); (focus (simp [go_sem]; done)); (focus (simp [go_sem]; done)); rintro _ rfl; simp (maxSteps := 2000000) (disch := omega) only [go_sem, List.length_map, Int.reduceEq, Int.reduceNe, Nat.reduceBEq, Nat.reduceLT, Nat.reduceLeDiff, Nat.reduceAdd, Nat.reduceSub, Nat.reduceMul, Nat.reduceEqDiff, Int.reduceLT, Int.reduceLE, Int.reduceNeg, Int.reduceToNat, Int.reduceAdd, Int.reduceSub, ↓reduceIte, reduceCtorEq]
      exact fin_ret (by rfl) (by simp [subMem])
    · have hf : frameF t = (frameB t, 0) := if_neg c0
      simp (maxSteps := 2000000) (disch := omega) only [go_sem, List.length_map, Int.reduceEq, Int.reduceNe, Nat.reduceBEq, Nat.reduceLT, Nat.reduceLeDiff, Nat.reduceAdd, Nat.reduceSub, Nat.reduceMul, Nat.reduceEqDiff, Int.reduceLT, Int.reduceLE, Int.reduceNeg, Int.reduceToNat, Int.reduceAdd, Int.reduceSub, ↓reduceIte, reduceCtorEq, h', hg', rowT]
      have hb2 : (frs (l.take i) ++ frameB t).length ≤ 3000000000 := by rw [List.length_append]; omega
      refine awCall_con [(102, 200)] [] (Frame t (by omega) hf) ?_ ?_ ?_ ?_ ?_; (focus kernel_rfl); (focus exact (.inl rfl)); (focus (simp [go_sem]; done)); (focus (simp [go_sem]; done)); rintro _ rfl; simp (maxSteps := 2000000) (disch := omega) only [go_sem, List.length_map, Int.reduceEq, Int.reduceNe, Nat.reduceBEq, Nat.reduceLT, Nat.reduceLeDiff, Nat.reduceAdd, Nat.reduceSub, Nat.reduceMul, Nat.reduceEqDiff, Int.reduceLT, Int.reduceLE, Int.reduceNeg, Int.reduceToNat, Int.reduceAdd, Int.reduceSub, ↓reduceIte, reduceCtorEq]
      simp (maxSteps := 2000000) (disch := omega) only [go_sem, List.length_map, Int.reduceEq, Int.reduceNe, Nat.reduceBEq, Nat.reduceLT, Nat.reduceLeDiff, Nat.reduceAdd, Nat.reduceSub, Nat.reduceMul, Nat.reduceEqDiff, Int.reduceLT, Int.reduceLE, Int.reduceNeg, Int.reduceToNat, Int.reduceAdd, Int.reduceSub, ↓reduceIte, reduceCtorEq, List.take_length, ← List.length_append]
      rw [← hft]
      have h4 : ∀ t' ∈ l.take (i + 1), t'.length ≤ 16777216 := by
        intro t' ht'
        rw [List.take_add_one, hg] at ht'
        simp only [Option.toList_some, List.mem_append, List.mem_singleton] at ht'
        rcases ht' with h | rfl
        · exact h3 t' h
        · omega
      have hb3 := frs_bulk l (i + 1)
      by_cases g : (((frs (l.take (i + 1))).length : Nat) : Int) ≤ cut
      · have hwi : w = i := by
          by_cases hlt : w < i
          · have := h1 hlt
            have := frs_mono l (w + 1) (i + 1) (by omega)
            omega
          · omega
        subst hwi
        simp (maxSteps := 2000000) (disch := omega) only [go_sem, List.length_map, Int.reduceEq, Int.reduceNe, Nat.reduceBEq, Nat.reduceLT, Nat.reduceLeDiff, Nat.reduceAdd, Nat.reduceSub, Nat.reduceMul, Nat.reduceEqDiff, Int.reduceLT, Int.reduceLE, Int.reduceNeg, Int.reduceToNat, Int.reduceAdd, Int.reduceSub, ↓reduceIte, reduceCtorEq, decide_eq_true g]
        exact ⟨(w + 1, w + 1), ⟨h, Nat.le_refl _, fun h => by omega, fun _ => g, h4⟩, by simp only; omega, weak_sub (by simp [envSub, Dk.look]) (by simp [subMem, Dk.find])⟩
      · simp (maxSteps := 2000000) (disch := omega) only [go_sem, List.length_map, Int.reduceEq, Int.reduceNe, Nat.reduceBEq, Nat.reduceLT, Nat.reduceLeDiff, Nat.reduceAdd, Nat.reduceSub, Nat.reduceMul, Nat.reduceEqDiff, Int.reduceLT, Int.reduceLE, Int.reduceNeg, Int.reduceToNat, Int.reduceAdd, Int.reduceSub, ↓reduceIte, reduceCtorEq, decide_eq_false g]
        refine ⟨(i + 1, w), ⟨h, by simp only; omega, fun _ => ?_, h2, h4⟩, by simp only; omega, weak_sub (by simp [envSub, Dk.look]) (by simp [subMem, Dk.find])⟩
        by_cases hlt : w < i
        · exact h1 hlt
        · obtain rfl : w = i := by omega
          dsimp only
          omega
  · obtain rfl : i = l.length := by omega
    rw [List.take_length] at *
    have h' : ¬ (l.length : Int) < l.length := by omega
    by_cases g1 : cut < 0
    · simp (maxSteps := 2000000) (disch := omega) only [go_sem, List.length_map, Int.reduceEq, Int.reduceNe, Nat.reduceBEq, Nat.reduceLT, Nat.reduceLeDiff, Nat.reduceAdd, Nat.reduceSub, Nat.reduceMul, Nat.reduceEqDiff, Int.reduceLT, Int.reduceLE, Int.reduceNeg, Int.reduceToNat, Int.reduceAdd, Int.reduceSub, ↓reduceIte, reduceCtorEq, h', decide_eq_true g1]
      refine awCall_con [] [] (alive) ?_ ?_ ?_ ?_ ?_; (focus kernel_rfl); (focus exact (.inl rfl)); (focus (simp [go_sem]; done)); (focus (simp [go_sem]; done)); rintro _ rfl; simp (maxSteps := 2000000) (disch := omega) only [go_sem, List.length_map, Int.reduceEq, Int.reduceNe, Nat.reduceBEq, Nat.reduceLT, Nat.reduceLeDiff, Nat.reduceAdd, Nat.reduceSub, Nat.reduceMul, Nat.reduceEqDiff, Int.reduceLT, Int.reduceLE, Int.reduceNeg, Int.reduceToNat, Int.reduceAdd, Int.reduceSub, ↓reduceIte, reduceCtorEq]
      exact fin_ret (by rfl) (by simp [subMem])
    · obtain ⟨c, rfl⟩ : ∃ c : Nat, cut = c := ⟨cut.toNat, by omega⟩
      by_cases g2 : (frs l).length < c
      · simp (maxSteps := 2000000) (disch := omega) only [go_sem, List.length_map, Int.reduceEq, Int.reduceNe, Nat.reduceBEq, Nat.reduceLT, Nat.reduceLeDiff, Nat.reduceAdd, Nat.reduceSub, Nat.reduceMul, Nat.reduceEqDiff, Int.reduceLT, Int.reduceLE, Int.reduceNeg, Int.reduceToNat, Int.reduceAdd, Int.reduceSub, ↓reduceIte, reduceCtorEq, h', decide_eq_false g1, decide_eq_true (show ((frs l).length : Int) < (c : Int) from by omega)]
        refine awCall_con [] [] (alive) ?_ ?_ ?_ ?_ ?_; (focus kernel_rfl); (focus exact (.inl rfl)); (focus (simp [go_sem]; done)); (focus (simp [go_sem]; done)); rintro _ rfl; simp (maxSteps := 2000000) (disch := omega) only [go_sem, List.length_map, Int.reduceEq, Int.reduceNe, Nat.reduceBEq, Nat.reduceLT, Nat.reduceLeDiff, Nat.reduceAdd, Nat.reduceSub, Nat.reduceMul, Nat.reduceEqDiff, Int.reduceLT, Int.reduceLE, Int.reduceNeg, Int.reduceToNat, Int.reduceAdd, Int.reduceSub, ↓reduceIte, reduceCtorEq]
        exact fin_ret (by rfl) (by simp [subMem])
      · simp (maxSteps := 2000000) (disch := omega) only [go_sem, List.length_map, Int.reduceEq, Int.reduceNe, Nat.reduceBEq, Nat.reduceLT, Nat.reduceLeDiff, Nat.reduceAdd, Nat.reduceSub, Nat.reduceMul, Nat.reduceEqDiff, Int.reduceLT, Int.reduceLE, Int.reduceNeg, Int.reduceToNat, Int.reduceAdd, Int.reduceSub, ↓reduceIte, reduceCtorEq, h', decide_eq_false g1, decide_eq_false (show ¬ ((frs l).length : Int) < (c : Int) from by omega)]
        refine ev_loop (α := Nat) (fun i => ⟨[(0, .imm false 1 (l.map rowT)), (1, .v (.int .i64 (c : Int))), (5, .slc 40 1 0 (frs l).length), (7, .v (.int .i64 (((frs (l.take w)).length : Nat) : Int))), (59, .v (.int .i64 (w : Int))), (60, .v (.int .i64 (i : Int))),
            (12, .v (.int .i64 (((frs (l.take i)).length : Nat) : Int)))], [(40, .cells (cellsB (frs l)))]⟩)
          (fun i => i ≤ w) (fun i => w - i) 0 (Nat.zero_le _) (weak_sub (by simp [envSub, Dk.look, frs]) (by simp [subMem, Dk.find])) ?_
        intro i hiw
        have hPi := frs_mono l i w hiw
        by_cases h : i < w
        · have h' : (i : Int) < w := by omega
          obtain ⟨t, hg⟩ : ∃ t, l[i]? = some t := ⟨_, List.getElem?_eq_getElem (by omega)⟩
          have hg' : (l.map rowT)[i]? = some (rowT t) := by rw [List.getElem?_map, hg]; rfl
          have hPw := h2 (by omega)
          have hP1 := frs_mono l (i + 1) w (by omega)
          have hft := frs_take l i t hg
          have hfl := frameB_length t
          have ht3 := h3 t (List.mem_of_getElem? hg)
          have hlen1 : (frs (l.take (i + 1))).length = (frs (l.take i)).length + (t.length + 12) := by rw [hft, List.length_append, hfl]
          have hq : ((frs l).drop (frs (l.take i)).length).take (c - (frs (l.take i)).length) = frameB t ++ (frs (l.drop (i + 1))).take (c - (frs (l.take i)).length - (t.length + 12)) := by
            conv => lhs; rw [frs_split l i, frs_drop l i t hg]
            rw [List.drop_append_of_le_length (Nat.le_refl _), List.drop_length, List.nil_append, List.take_append, List.take_of_length_le (by omega), hfl]
          have hu := unframe_frame t ((frs (l.drop (i + 1))).take (c - (frs (l.take i)).length - (t.length + 12))) ht3
          rw [← hq] at hu
          have hch := chunk_part (frs l) (frs (l.take i)).length (c - (frs (l.take i)).length) (by omega)
          have hql : (((frs l).drop (frs (l.take i)).length).take (c - (frs (l.take i)).length)).length ≤ 3000000000 := by simp; omega
          simp (maxSteps := 2000000) (disch := omega) only [go_sem, List.length_map, Int.reduceEq, Int.reduceNe, Nat.reduceBEq, Nat.reduceLT, Nat.reduceLeDiff, Nat.reduceAdd, Nat.reduceSub, Nat.reduceMul, Nat.reduceEqDiff, Int.reduceLT, Int.reduceLE, Int.reduceNeg, Int.reduceToNat, Int.reduceAdd, Int.reduceSub, ↓reduceIte, reduceCtorEq, h', hg', rowT]
          have g5 : (frs (l.take i)).length + (c - (frs (l.take i)).length) ≤ (frs l).length := by omega
          refine awCall_con [] [40] (Unframe (((frs l).drop (frs (l.take i)).length).take (c - (frs (l.take i)).length)) (by omega) hu) ?_ ?_ ?_ ?_ ?_; (focus kernel_rfl); (focus exact (.inr ⟨by simp [AV.strong, strongL], by simp [strongM, strongB, strongL, strongL_cellsB, AV.strong]⟩)); (focus (simp [go_sem, viewIn, datsL_cellsB, hch, g5]; done)); (focus (simp [go_sem, viewIn, datsL_cellsB, hch, g5]; done)); rintro _ rfl; simp (maxSteps := 2000000) (disch := omega) only [go_sem, List.length_map, Int.reduceEq, Int.reduceNe, Nat.reduceBEq, Nat.reduceLT, Nat.reduceLeDiff, Nat.reduceAdd, Nat.reduceSub, Nat.reduceMul, Nat.reduceEqDiff, Int.reduceLT, Int.reduceLE, Int.reduceNeg, Int.reduceToNat, Int.reduceAdd, Int.reduceSub, ↓reduceIte, reduceCtorEq]
          simp (maxSteps := 2000000) (disch := omega) only [go_sem, List.length_map, Int.reduceEq, Int.reduceNe, Nat.reduceBEq, Nat.reduceLT, Nat.reduceLeDiff, Nat.reduceAdd, Nat.reduceSub, Nat.reduceMul, Nat.reduceEqDiff, Int.reduceLT, Int.reduceLE, Int.reduceNeg, Int.reduceToNat, Int.reduceAdd, Int.reduceSub, ↓reduceIte, reduceCtorEq, hg', rowT, decide_eq_true h', decide_eq_false (show ¬ (i : Int) < 0 from by omega)]
          refine awCall_con [] [] (same t t) ?_ ?_ ?_ ?_ ?_; (focus kernel_rfl); (focus exact (.inl rfl)); (focus (simp [go_sem]; done)); (focus (simp [go_sem]; done)); rintro _ rfl; simp (maxSteps := 2000000) (disch := omega) only [go_sem, List.length_map, Int.reduceEq, Int.reduceNe, Nat.reduceBEq, Nat.reduceLT, Nat.reduceLeDiff, Nat.reduceAdd, Nat.reduceSub, Nat.reduceMul, Nat.reduceEqDiff, Int.reduceLT, Int.reduceLE, Int.reduceNeg, Int.reduceToNat, Int.reduceAdd, Int.reduceSub, ↓reduceIte, reduceCtorEq]
          refine ⟨i + 1, h, by omega, ?_⟩
          rw [show (((frs (l.take i)).length : Nat) : Int) + ((t.length + 12 : Nat) : Int) = (((frs (l.take (i + 1))).length : Nat) : Int) from by omega]
          exact weak_sub (by simp [envSub, Dk.look]) (by simp [subMem, Dk.find])
        · obtain rfl : i = w := by omega
          have h' : ¬ (i : Int) < i := by omega
          have hPc : (frs (l.take i)).length ≤ c := by
            by_cases h0 : 0 < i
            · have := h2 h0; omega
            · obtain rfl : i = 0 := by omega
              simp [frs]
          have hu : unframeU (((frs l).drop (frs (l.take i)).length).take (c - (frs (l.take i)).length)) = ([], 0, 10) := by
            have e : (frs l).drop (frs (l.take i)).length = frs (l.drop i) := by
              conv => lhs; rw [frs_split l i]
              rw [List.drop_append_of_le_length (Nat.le_refl _), List.drop_length, List.nil_append]
            rw [e]
            by_cases hlt : i < l.length
            · obtain ⟨t, hg⟩ : ∃ t, l[i]? = some t := ⟨_, List.getElem?_eq_getElem hlt⟩
              have hlen1 : (frs (l.take (i + 1))).length = (frs (l.take i)).length + (frameB t).length := by rw [frs_take l i t hg, List.length_append]
              have := h1 hlt
              rw [frs_drop l i t hg, List.take_append_of_le_length (by omega)]
              exact unframe_take t (h3 t (List.mem_of_getElem? hg)) _ (by omega)
            · rw [List.drop_of_length_le (by omega)]
              simp [frs, unframeU]
          have hch := chunk_part (frs l) (frs (l.take i)).length (c - (frs (l.take i)).length) (by omega)
          have hql : (((frs l).drop (frs (l.take i)).length).take (c - (frs (l.take i)).length)).length ≤ 3000000000 := by simp; omega
          have g5 : (frs (l.take i)).length + (c - (frs (l.take i)).length) ≤ (frs l).length := by omega
          simp (maxSteps := 2000000) (disch := omega) only [go_sem, List.length_map, Int.reduceEq, Int.reduceNe, Nat.reduceBEq, Nat.reduceLT, Nat.reduceLeDiff, Nat.reduceAdd, Nat.reduceSub, Nat.reduceMul, Nat.reduceEqDiff, Int.reduceLT, Int.reduceLE, Int.reduceNeg, Int.reduceToNat, Int.reduceAdd, Int.reduceSub, ↓reduceIte, reduceCtorEq, h']
          refine awCall_con [] [40] (Unframe (((frs l).drop (frs (l.take i)).length).take (c - (frs (l.take i)).length)) (by omega) hu) ?_ ?_ ?_ ?_ ?_; (focus kernel_rfl); (focus exact (.inr ⟨by simp [AV.strong, strongL], by simp [strongM, strongB, strongL, strongL_cellsB, AV.strong]⟩)); (focus (simp [go_sem, viewIn, datsL_cellsB, hch, g5]; done)); (focus (simp [go_sem, viewIn, datsL_cellsB, hch, g5]; done)); rintro _ rfl; simp (maxSteps := 2000000) (disch := omega) only [go_sem, List.length_map, Int.reduceEq, Int.reduceNe, Nat.reduceBEq, Nat.reduceLT, Nat.reduceLeDiff, Nat.reduceAdd, Nat.reduceSub, Nat.reduceMul, Nat.reduceEqDiff, Int.reduceLT, Int.reduceLE, Int.reduceNeg, Int.reduceToNat, Int.reduceAdd, Int.reduceSub, ↓reduceIte, reduceCtorEq]
          refine awCall_con [] [] (alive) ?_ ?_ ?_ ?_ ?_; (focus kernel_rfl); (focus exact (.inl rfl)); (focus (simp [go_sem]; done)); (focus (simp [go_sem]; done)); rintro _ rfl; simp (maxSteps := 2000000) (disch := omega) only [go_sem, List.length_map, Int.reduceEq, Int.reduceNe, Nat.reduceBEq, Nat.reduceLT, Nat.reduceLeDiff, Nat.reduceAdd, Nat.reduceSub, Nat.reduceMul, Nat.reduceEqDiff, Int.reduceLT, Int.reduceLE, Int.reduceNeg, Int.reduceToNat, Int.reduceAdd, Int.reduceSub, ↓reduceIte, reduceCtorEq]
          exact fin_ret (by rfl) (by simp [subMem])
end Go.Proofs.Ytjmkgpkgagohoaa
