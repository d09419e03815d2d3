/-
  CodecL: contracts of functions of the program, and what follows from them.
-/
import Derived.Test.YtjmkgpkgagohoaaTyCodec
import Derived.Test.YtjmkgpkgagohoaaCodecJ
import Derived.Test.YtjmkgpkgagohoaaDk3
set_option linter.all false
namespace Go.Proofs.Ytjmkgpkgagohoaa
open Go Go.Dk
set_option linter.unusedSimpArgs false
set_option linter.unusedVariables false
set_option maxRecDepth 10000
set_option maxHeartbeats 4000000
set_option pp.deepTerms true
set_option pp.maxSteps 1000000

theorem text (bs cs : List UInt8) (hl : bs.length + cs.length < 900000000000) :
    (Con.mk [.ptr 1000 0, .imm false 1 (rowsB cs)] [(1000, .cells [.slc 1001 1 0 (bs).length]), (1001, .cells (cellsB (bs)))] [1000] (.tup []) [(1000, .cells [.slc 1001 1 0 (bs ++ varB cs.length ++ cs).length]), (1001, .cells (cellsB (bs ++ varB cs.length ++ cs)))]).ok Try.prog 31 := by
  refine ⟨?_, by simp [Con.wf, ids, inA, inM, inB, inL_nil, inL_cons, inL_append, inL_cellsB, inL_dat]⟩
  refine con_of_ev true [0, 1] 7 Try.func31 (code := _) rfl rfl Try.ntmps31 (by simp) [] (by rw [Try.results31]) ?_
  simp (maxSteps := 2000000) (disch := omega) only [go_sem, List.length_map, Int.reduceEq, Int.reduceNe, Nat.reduceBEq, Nat.reduceLT, Nat.reduceLeDiff, Nat.reduceAdd, Nat.reduceSub, Nat.reduceMul, Nat.reduceEqDiff, Int.reduceLT, Int.reduceLE, Int.reduceNeg, Int.reduceToNat, Int.reduceAdd, Int.reduceSub, ↓reduceIte, reduceCtorEq]
  refine awCall_con [] [] (Writer_Text bs cs hl) ?_ ?_ ?_ ?_ ?_; (focus kernel_rfl); (focus exact (.inl rfl)); (focus (simp [go_sem]; done)); (focus (simp [go_sem]; done)); rintro _ rfl; simp (maxSteps := 2000000) (disch := omega) only [go_sem, List.length_map, Int.reduceEq, Int.reduceNe, Nat.reduceBEq, Nat.reduceLT, Nat.reduceLeDiff, Nat.reduceAdd, Nat.reduceSub, Nat.reduceMul, Nat.reduceEqDiff, Int.reduceLT, Int.reduceLE, Int.reduceNeg, Int.reduceToNat, Int.reduceAdd, Int.reduceSub, ↓reduceIte, reduceCtorEq]
  exact fin_normal (by rfl) (by simp [subMem, Dk.find])

def textB (b : List UInt8) : List UInt8 := varB b.length ++ b
def bulkB (b : List UInt8) : Nat := b.length + 1
def rowT (b : List UInt8) : List Dat := [.sl 1 (rowsB b)]
def texts (l : List (List UInt8)) : List UInt8 := l.flatMap textB
theorem texts_take (l : List (List UInt8)) (i : Nat) (t : List UInt8) (h : l[i]? = some t) : texts (l.take (i + 1)) = texts (l.take i) ++ textB t := by
  rw [List.take_add_one, h]; simp [texts]
theorem texts_len : ∀ l : List (List UInt8), (texts l).length ≤ 10 * bulks bulkB l
  | [] => by simp [texts, bulks]
  | t :: l => by
    have h1 := texts_len l
    have h2 := varB_length t.length
    have h3 : (textB t).length = (varB t.length).length + t.length := by simp [textB]
    have h4 : (texts (t :: l)).length = (textB t).length + (texts l).length := by simp [texts]
    have h5 : bulks bulkB (t :: l) = t.length + 1 + bulks bulkB l := rfl
    omega
theorem bulksL_take : ∀ (l : List (List UInt8)) (i : Nat), bulks bulkB (l.take i) ≤ bulks bulkB l
  | [], i => by simp
  | t :: l, 0 => by simp [bulks]
  | t :: l, i + 1 => by have := bulksL_take l i; simp only [List.take_succ_cons, bulks]; omega
theorem texts_bulk (l : List (List UInt8)) (i : Nat) : (texts (l.take i)).length ≤ 10 * bulks bulkB l := Nat.le_trans (texts_len _) (Nat.mul_le_mul_left _ (bulksL_take _ _))
theorem bulkL_one : ∀ (l : List (List UInt8)) (i : Nat) (t : List UInt8), l[i]? = some t → t.length ≤ bulks bulkB l
  | [], i, t, h => by simp at h
  | x :: l, 0, t, h => by simp at h; subst h; simp only [bulks, bulkB]; omega
  | x :: l, i + 1, t, h => by have := bulkL_one l i t (by simpa using h); simp only [bulks, bulkB]; omega
theorem bulkL_len : ∀ (l : List (List UInt8)), l.length ≤ bulks bulkB l
  | [] => Nat.le_refl _
  | t :: l => by have := bulkL_len l; simp only [bulks, bulkB, List.length_cons] at *; omega

theorem Put (bs : List UInt8) (l : List (List UInt8)) (hl : bulks bulkB l < 1000000000) (hb : bs.length < 10000000000) :
    (Con.mk [.ptr 1000 0, .imm false 1 (l.map rowT), .fn (.func 31) []] [(1000, .cells [.slc 1001 1 0 (bs).length]), (1001, .cells (cellsB (bs)))] [1000] (.tup []) [(1000, .cells [.slc 1001 1 0 (bs ++ varB l.length ++ texts l).length]), (1001, .cells (cellsB (bs ++ varB l.length ++ texts l)))]).ok Try.prog 30 := by
  refine ⟨?_, by simp [Con.wf, ids, inA, inM, inB, inL_nil, inL_cons, inL_append, inL_cellsB, inL_dat]⟩
  have hln := bulkL_len l
  have hn : l.length < 1000000000 := by omega
  have hvl := varB_length l.length
  refine con_of_ev true [0, 1, 2, 7, 13, 14, 15, 16] 24 Try.func30 (code := _) rfl rfl Try.ntmps30 (by simp) [] (by rw [Try.results30]) ?_
  simp (maxSteps := 2000000) (disch := omega) only [go_sem, List.length_map, Int.reduceEq, Int.reduceNe, Nat.reduceBEq, Nat.reduceLT, Nat.reduceLeDiff, Nat.reduceAdd, Nat.reduceSub, Nat.reduceMul, Nat.reduceEqDiff, Int.reduceLT, Int.reduceLE, Int.reduceNeg, Int.reduceToNat, Int.reduceAdd, Int.reduceSub, ↓reduceIte, reduceCtorEq]
  refine awCall_con [] [] (Writer_Var bs l.length (by omega) (by omega)) ?_ ?_ ?_ ?_ ?_; (focus kernel_rfl); (focus exact (.inl rfl)); (focus (simp [go_sem]; done)); (focus (simp [go_sem]; done)); rintro _ rfl; simp (maxSteps := 2000000) (disch := omega) only [go_sem, List.length_map, Int.reduceEq, Int.reduceNe, Nat.reduceBEq, Nat.reduceLT, Nat.reduceLeDiff, Nat.reduceAdd, Nat.reduceSub, Nat.reduceMul, Nat.reduceEqDiff, Int.reduceLT, Int.reduceLE, Int.reduceNeg, Int.reduceToNat, Int.reduceAdd, Int.reduceSub, ↓reduceIte, reduceCtorEq]
  refine ev_loop (α := Nat) (fun i => ⟨[(0, .ptr 1000 0), (2, .fn (.func 31) []), (13, .imm false 1 (l.map rowT)), (14, .v (.int .i64 l.length)), (15, .v (.int .i64 (i : Int)))], [(1000, .cells [.slc 1001 1 0 (bs ++ varB l.length ++ texts (l.take i)).length]), (1001, .cells (cellsB (bs ++ varB l.length ++ texts (l.take i))))]⟩)
    (fun i => i ≤ l.length) (fun i => l.length - i) 0 (Nat.zero_le _)
    (weak_sub (by simp [envSub, Dk.look, texts]) (by simp [subMem, Dk.find, texts])) ?_
  intro i hi
  have hb1 := texts_bulk l i
  by_cases h : i < l.length
  · have h' : (i : Int) < l.length := by omega
    obtain ⟨t, hg⟩ : ∃ t, l[i]? = some t := ⟨_, List.getElem?_eq_getElem h⟩
    have hg' : (l.map rowT)[i]? = some (rowT t) := by rw [List.getElem?_map, hg]; rfl
    have htb := bulkL_one l i t hg
    simp (maxSteps := 2000000) (disch := omega) only [go_sem, List.length_map, Int.reduceEq, Int.reduceNe, Nat.reduceBEq, Nat.reduceLT, Nat.reduceLeDiff, Nat.reduceAdd, Nat.reduceSub, Nat.reduceMul, Nat.reduceEqDiff, Int.reduceLT, Int.reduceLE, Int.reduceNeg, Int.reduceToNat, Int.reduceAdd, Int.reduceSub, ↓reduceIte, reduceCtorEq, h', hg', rowT]
    refine awCall_con [] [] (text (bs ++ varB l.length ++ texts (l.take i)) t (by simp; omega)) ?_ ?_ ?_ ?_ ?_; (focus kernel_rfl); (focus exact (.inl rfl)); (focus (simp [go_sem]; done)); (focus (simp [go_sem]; done)); rintro _ rfl; simp (maxSteps := 2000000) (disch := omega) only [go_sem, List.length_map, Int.reduceEq, Int.reduceNe, Nat.reduceBEq, Nat.reduceLT, Nat.reduceLeDiff, Nat.reduceAdd, Nat.reduceSub, Nat.reduceMul, Nat.reduceEqDiff, Int.reduceLT, Int.reduceLE, Int.reduceNeg, Int.reduceToNat, Int.reduceAdd, Int.reduceSub, ↓reduceIte, reduceCtorEq]
    refine ⟨i + 1, h, by omega, ?_⟩
    rw [texts_take l i t hg]
    exact weak_sub (by simp [envSub, Dk.look]) (by simp [subMem, Dk.find, textB])
  · obtain rfl : i = l.length := by omega
    rw [List.take_length] at *
    have h' : ¬ (l.length : Int) < l.length := by omega
    simp (maxSteps := 2000000) (disch := omega) only [go_sem, List.length_map, Int.reduceEq, Int.reduceNe, Nat.reduceBEq, Nat.reduceLT, Nat.reduceLeDiff, Nat.reduceAdd, Nat.reduceSub, Nat.reduceMul, Nat.reduceEqDiff, Int.reduceLT, Int.reduceLE, Int.reduceNeg, Int.reduceToNat, Int.reduceAdd, Int.reduceSub, ↓reduceIte, reduceCtorEq, h']
    exact fin_normal (by rfl) (by simp [subMem, Dk.find])

theorem CodecPuts (l : List (List UInt8)) (hl : bulks bulkB l < 1000000000) :
    (Con.mk [.imm false 1 (l.map rowT)] [] [] (.v (.bool true)) []).ok Try.prog 7 := by
  refine ⟨?_, by simp [Con.wf, ids, inA, inM, inB, inL_nil, inL_cons, inL_append, inL_cellsB, inL_dat]⟩
  have hln := bulkL_len l
  have hn : l.length < 1000000000 := by omega
  have hvl := varB_length l.length
  refine con_of_ev true [0, 2, 3, 4, 6, 13, 21, 22, 23, 24] 36 Try.func7 (code := _) rfl rfl Try.ntmps7 (by simp) [.tmp 2] (by rw [Try.results7]) ?_
  simp (maxSteps := 2000000) (disch := omega) only [go_sem, List.length_map, Int.reduceEq, Int.reduceNe, Nat.reduceBEq, Nat.reduceLT, Nat.reduceLeDiff, Nat.reduceAdd, Nat.reduceSub, Nat.reduceMul, Nat.reduceEqDiff, Int.reduceLT, Int.reduceLE, Int.reduceNeg, Int.reduceToNat, Int.reduceAdd, Int.reduceSub, ↓reduceIte, reduceCtorEq]
  refine awCall_con [(2, 100), (3, 101)] [] (New) ?_ ?_ ?_ ?_ ?_; (focus kernel_rfl); (focus exact (.inl rfl)); (focus (simp [go_sem]; done)); (focus (simp [go_sem]; done)); rintro _ rfl; simp (maxSteps := 2000000) (disch := omega) only [go_sem, List.length_map, Int.reduceEq, Int.reduceNe, Nat.reduceBEq, Nat.reduceLT, Nat.reduceLeDiff, Nat.reduceAdd, Nat.reduceSub, Nat.reduceMul, Nat.reduceEqDiff, Int.reduceLT, Int.reduceLE, Int.reduceNeg, Int.reduceToNat, Int.reduceAdd, Int.reduceSub, ↓reduceIte, reduceCtorEq]
  refine awCall_con [] [] (alive) ?_ ?_ ?_ ?_ ?_; (focus kernel_rfl); (focus exact (.inl rfl)); (focus (simp [go_sem]; done)); (focus (simp [go_sem]; done)); rintro _ rfl; simp (maxSteps := 2000000) (disch := omega) only [go_sem, List.length_map, Int.reduceEq, Int.reduceNe, Nat.reduceBEq, Nat.reduceLT, Nat.reduceLeDiff, Nat.reduceAdd, Nat.reduceSub, Nat.reduceMul, Nat.reduceEqDiff, Int.reduceLT, Int.reduceLE, Int.reduceNeg, Int.reduceToNat, Int.reduceAdd, Int.reduceSub, ↓reduceIte, reduceCtorEq]
  refine awCall_con [(1000, 100), (1001, 101)] [] (Put [] l hl (by simp)) ?_ ?_ ?_ ?_ ?_; (focus kernel_rfl); (focus exact (.inl rfl)); (focus (simp [go_sem]; done)); (focus (simp [go_sem]; done)); rintro _ rfl; simp (maxSteps := 2000000) (disch := omega) only [go_sem, List.length_map, Int.reduceEq, Int.reduceNe, Nat.reduceBEq, Nat.reduceLT, Nat.reduceLeDiff, Nat.reduceAdd, Nat.reduceSub, Nat.reduceMul, Nat.reduceEqDiff, Int.reduceLT, Int.reduceLE, Int.reduceNeg, Int.reduceToNat, Int.reduceAdd, Int.reduceSub, ↓reduceIte, reduceCtorEq]
  refine awCall_con [(16, 50)] [] (rVar l.length (by omega)) ?_ ?_ ?_ ?_ ?_; (focus kernel_rfl); (focus exact (.inl rfl)); (focus (simp [go_sem]; done)); (focus (simp [go_sem]; done)); rintro _ rfl; simp (maxSteps := 2000000) (disch := omega) only [go_sem, List.length_map, Int.reduceEq, Int.reduceNe, Nat.reduceBEq, Nat.reduceLT, Nat.reduceLeDiff, Nat.reduceAdd, Nat.reduceSub, Nat.reduceMul, Nat.reduceEqDiff, Int.reduceLT, Int.reduceLE, Int.reduceNeg, Int.reduceToNat, Int.reduceAdd, Int.reduceSub, ↓reduceIte, reduceCtorEq]
  refine ev_loop (α := Nat) (fun i => ⟨[(3, .ptr 100 0), (21, .imm false 1 (l.map rowT)), (22, .v (.int .i64 l.length)), (23, .v (.int .i64 (i : Int))), (4, .slc 50 1 0 (varB l.length ++ texts (l.take i)).length)],
      [(100, .cells [.slc 101 1 0 (varB l.length ++ texts l).length]), (101, .cells (cellsB (varB l.length ++ texts l)))] ++ [(50, .cells (cellsB (varB l.length ++ texts (l.take i))))]⟩)
    (fun i => i ≤ l.length) (fun i => l.length - i) 0 (Nat.zero_le _)
    (weak_sub (by simp [envSub, Dk.look, texts]) (by simp [subMem, Dk.find, texts])) ?_
  intro i hi
  have hb1 := texts_bulk l i
  by_cases h : i < l.length
  · have h' : (i : Int) < l.length := by omega
    obtain ⟨t, hg⟩ : ∃ t, l[i]? = some t := ⟨_, List.getElem?_eq_getElem h⟩
    have hg' : (l.map rowT)[i]? = some (rowT t) := by rw [List.getElem?_map, hg]; rfl
    have htb := bulkL_one l i t hg
    have hvt := varB_length t.length
    have hb2 : (varB l.length ++ texts (l.take i)).length ≤ 9 + 10 * bulks bulkB l := by rw [List.length_append]; omega
    have hb3 : (varB t.length ++ t).length ≤ 9 + bulks bulkB l := by rw [List.length_append]; omega
    simp (maxSteps := 2000000) (disch := omega) only [go_sem, List.length_map, Int.reduceEq, Int.reduceNe, Nat.reduceBEq, Nat.reduceLT, Nat.reduceLeDiff, Nat.reduceAdd, Nat.reduceSub, Nat.reduceMul, Nat.reduceEqDiff, Int.reduceLT, Int.reduceLE, Int.reduceNeg, Int.reduceToNat, Int.reduceAdd, Int.reduceSub, ↓reduceIte, reduceCtorEq, h', hg', rowT]
    refine awCall_con [(16, 60)] [] (rText t (by omega)) ?_ ?_ ?_ ?_ ?_; (focus kernel_rfl); (focus exact (.inl rfl)); (focus (simp [go_sem]; done)); (focus (simp [go_sem]; done)); rintro _ rfl; simp (maxSteps := 2000000) (disch := omega) only [go_sem, List.length_map, Int.reduceEq, Int.reduceNe, Nat.reduceBEq, Nat.reduceLT, Nat.reduceLeDiff, Nat.reduceAdd, Nat.reduceSub, Nat.reduceMul, Nat.reduceEqDiff, Int.reduceLT, Int.reduceLE, Int.reduceNeg, Int.reduceToNat, Int.reduceAdd, Int.reduceSub, ↓reduceIte, reduceCtorEq]
    refine ⟨i + 1, h, by omega, ?_⟩
    rw [List.take_length, List.take_length, texts_take l i t hg, ← List.length_append, List.append_assoc]
    exact weak_sub (by simp [envSub, Dk.look, textB]) (by simp [subMem, Dk.find, textB])
  · obtain rfl : i = l.length := by omega
    rw [List.take_length] at *
    have h' : ¬ (l.length : Int) < l.length := by omega
    have hb2 : (varB l.length ++ texts l).length ≤ 9 + 10 * bulks bulkB l := by rw [List.length_append]; omega
    generalize varB l.length ++ texts l = w at *
    simp (maxSteps := 2000000) (disch := omega) only [go_sem, List.length_map, Int.reduceEq, Int.reduceNe, Nat.reduceBEq, Nat.reduceLT, Nat.reduceLeDiff, Nat.reduceAdd, Nat.reduceSub, Nat.reduceMul, Nat.reduceEqDiff, Int.reduceLT, Int.reduceLE, Int.reduceNeg, Int.reduceToNat, Int.reduceAdd, Int.reduceSub, ↓reduceIte, reduceCtorEq, h']
    refine awCall_con [(1000, 100), (1001, 101), (7, 102)] [] (Writer_Bytes w (by omega)) ?_ ?_ ?_ ?_ ?_; (focus kernel_rfl); (focus exact (.inl rfl)); (focus (simp [go_sem]; done)); (focus (simp [go_sem]; done)); rintro _ rfl; simp (maxSteps := 2000000) (disch := omega) only [go_sem, List.length_map, Int.reduceEq, Int.reduceNe, Nat.reduceBEq, Nat.reduceLT, Nat.reduceLeDiff, Nat.reduceAdd, Nat.reduceSub, Nat.reduceMul, Nat.reduceEqDiff, Int.reduceLT, Int.reduceLE, Int.reduceNeg, Int.reduceToNat, Int.reduceAdd, Int.reduceSub, ↓reduceIte, reduceCtorEq]
    refine awCall_con [] [102, 50] (same w w) ?_ ?_ ?_ ?_ ?_; (focus kernel_rfl); (focus exact (.inr ⟨by simp [AV.strong, strongL], by simp [strongM, strongB, strongL, strongL_cellsB, AV.strong]⟩)); (focus (simp [go_sem, datsL_cellsB, chunk_cellsB]; done)); (focus (simp [go_sem, datsL_cellsB, chunk_cellsB]; done)); rintro _ rfl; simp (maxSteps := 2000000) (disch := omega) only [go_sem, List.length_map, Int.reduceEq, Int.reduceNe, Nat.reduceBEq, Nat.reduceLT, Nat.reduceLeDiff, Nat.reduceAdd, Nat.reduceSub, Nat.reduceMul, Nat.reduceEqDiff, Int.reduceLT, Int.reduceLE, Int.reduceNeg, Int.reduceToNat, Int.reduceAdd, Int.reduceSub, ↓reduceIte, reduceCtorEq]
    exact fin_ret (by rfl) (by simp [subMem])
end Go.Proofs.Ytjmkgpkgagohoaa
