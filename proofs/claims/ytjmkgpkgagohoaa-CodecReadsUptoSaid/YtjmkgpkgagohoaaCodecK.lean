/-
  CodecK: contracts of functions of the program, and what follows from them.
-/
import Derived.Test.YtjmkgpkgagohoaaTyCodec
import Derived.Test.YtjmkgpkgagohoaaCodecJ
import Derived.Test.YtjmkgpkgagohoaaDk3
set_option linter.all false
namespace Go.Proofs.Ytjmkgpkgagohoaa
open Go Go.Dk
set_option linter.unusedSimpArgs false
set_option linter.unusedVariables false
set_option maxRecDepth 10000
set_option maxHeartbeats 4000000
set_option pp.deepTerms true
set_option pp.maxSteps 1000000

def outs (l : List Thing) : List UInt8 := l.flatMap Thing.out
def bulkT (t : Thing) : Nat := t.b.length + 10
theorem outs_take (l : List Thing) (i : Nat) (t : Thing) (h : l[i]? = some t) : outs (l.take (i + 1)) = outs (l.take i) ++ t.out := by
  rw [List.take_add_one, h]; simp [outs]

theorem outs_len : ∀ l : List Thing, (outs l).length ≤ bulks bulkT l
  | [] => by simp [outs, bulks]
  | t :: l => by
    have := outs_len l
    have h2 := t.out_len
    simp only [outs, bulks, bulkT, List.flatMap_cons, List.length_append] at *
    omega
theorem bulk_take : ∀ (l : List Thing) (i : Nat), bulks bulkT (l.take i) ≤ bulks bulkT l
  | [], i => by simp
  | t :: l, 0 => by simp [bulks]
  | t :: l, i + 1 => by have := bulk_take l i; simp only [List.take_succ_cons, bulks]; omega
theorem outs_bulk (l : List Thing) (i : Nat) : (outs (l.take i)).length ≤ bulks bulkT l := Nat.le_trans (outs_len _) (bulk_take _ _)
theorem bulk_one : ∀ (l : List Thing) (i : Nat) (t : Thing), l[i]? = some t → t.b.length ≤ bulks bulkT l
  | [], i, t, h => by simp at h
  | x :: l, 0, t, h => by simp at h; subst h; simp only [bulks, bulkT]; omega
  | x :: l, i + 1, t, h => by have := bulk_one l i t (by simpa using h); simp only [bulks]; omega

theorem CodecWrites (l : List Thing) (ht : ∀ t ∈ l, t.ok) (hl : bulks bulkT l < 10000000000) (hn : l.length < 10000000000) :
    (Con.mk [.imm false 4 (l.map Thing.dat)] [] [] (.v (.bool true)) []).ok Try.prog 4 := by
  refine ⟨?_, by simp [Con.wf, ids, inA, inM, inB, inL_nil, inL_cons, inL_append, inL_cellsB, inL_dat]⟩
  refine con_of_ev true [0, 2, 3, 4, 6, 7, 8, 9, 10, 11, 18, 19, 20, 21, 22, 35, 36, 37, 55, 63, 64, 65] 81 Try.func4 (code := _) rfl rfl Try.ntmps4 (by simp) [.tmp 2] (by rw [Try.results4]) ?_
  simp (maxSteps := 2000000) (disch := omega) only [go_sem, Int.reduceEq, Int.reduceNe, Nat.reduceBEq, Nat.reduceLT, Nat.reduceLeDiff, Nat.reduceAdd, Nat.reduceSub, Nat.reduceMul, Nat.reduceEqDiff, Int.reduceLT, Int.reduceLE, Int.reduceNeg, Int.reduceToNat, Int.reduceAdd, Int.reduceSub, ↓reduceIte, reduceCtorEq]
  refine awCall_con [(2, 100), (3, 101)] [] (New) ?_ ?_ ?_ ?_ ?_; (focus kernel_rfl); (focus exact (.inl rfl)); (focus (simp [go_sem]; done)); (focus (simp [go_sem]; done)); rintro _ rfl; simp (maxSteps := 2000000) (disch := omega) only [go_sem, Int.reduceEq, Int.reduceNe, Nat.reduceBEq, Nat.reduceLT, Nat.reduceLeDiff, Nat.reduceAdd, Nat.reduceSub, Nat.reduceMul, Nat.reduceEqDiff, Int.reduceLT, Int.reduceLE, Int.reduceNeg, Int.reduceToNat, Int.reduceAdd, Int.reduceSub, ↓reduceIte, reduceCtorEq]
  refine awCall_con [] [] (alive) ?_ ?_ ?_ ?_ ?_; (focus kernel_rfl); (focus exact (.inl rfl)); (focus (simp [go_sem]; done)); (focus (simp [go_sem]; done)); rintro _ rfl; simp (maxSteps := 2000000) (disch := omega) only [go_sem, Int.reduceEq, Int.reduceNe, Nat.reduceBEq, Nat.reduceLT, Nat.reduceLeDiff, Nat.reduceAdd, Nat.reduceSub, Nat.reduceMul, Nat.reduceEqDiff, Int.reduceLT, Int.reduceLE, Int.reduceNeg, Int.reduceToNat, Int.reduceAdd, Int.reduceSub, ↓reduceIte, reduceCtorEq]
  refine ev_loop (α := Nat) (fun i => ⟨[(3, .ptr 100 0), (19, .imm false 4 (l.map Thing.dat)), (20, .v (.int .i64 l.length)), (21, .v (.int .i64 (i : Int))), (4, .slc 50 1 0 (outs (l.take i)).length)],
      [(100, .cells [.slc 101 1 0 (outs (l.take i)).length]), (101, .cells (cellsB (outs (l.take i))))] ++ [(50, .cells (cellsB (outs (l.take i))))]⟩)
    (fun i => i ≤ l.length) (fun i => l.length - i) 0 (Nat.zero_le _)
    (Weak.trans (weak_nil 4 50 1 rfl rfl rfl rfl) (weak_sub (by simp [envSub, Dk.look, putE, eraseE, outs]) (by simp [subMem, Dk.find, cellsB_nil, outs]))) ?_
  intro i hi
  have hb1 := outs_bulk l i
  have hle := bulk_take l i
  by_cases h : i < l.length
  · have h' : (i : Int) < l.length := by omega
    obtain ⟨t, hg⟩ : ∃ t, l[i]? = some t := ⟨_, List.getElem?_eq_getElem h⟩
    have hg' : (l.map Thing.dat)[i]? = some t.dat := by rw [List.getElem?_map, hg]; rfl
    have htb := bulk_one l i t hg
    have hto := ht t (List.mem_of_getElem? hg)
    simp (maxSteps := 2000000) (disch := omega) only [go_sem, Int.reduceEq, Int.reduceNe, Nat.reduceBEq, Nat.reduceLT, Nat.reduceLeDiff, Nat.reduceAdd, Nat.reduceSub, Nat.reduceMul, Nat.reduceEqDiff, Int.reduceLT, Int.reduceLE, Int.reduceNeg, Int.reduceToNat, Int.reduceAdd, Int.reduceSub, ↓reduceIte, reduceCtorEq, h', hg', Thing.dat]
    refine awCall_con [(1000, 100), (1001, 101)] [28] (Write (outs (l.take i)) t hto (by omega)) ?_ ?_ ?_ ?_ ?_; (focus kernel_rfl); (focus exact (.inr ⟨by simp [AV.strong, strongL], by simp [strongM, strongB, strongL, strongL_cellsB, AV.strong]⟩)); (focus (simp [go_sem, datsL_cellsB, chunk_cellsB]; done)); (focus (simp [go_sem, datsL_cellsB, chunk_cellsB]; done)); rintro _ rfl; simp (maxSteps := 2000000) (disch := omega) only [go_sem, Int.reduceEq, Int.reduceNe, Nat.reduceBEq, Nat.reduceLT, Nat.reduceLeDiff, Nat.reduceAdd, Nat.reduceSub, Nat.reduceMul, Nat.reduceEqDiff, Int.reduceLT, Int.reduceLE, Int.reduceNeg, Int.reduceToNat, Int.reduceAdd, Int.reduceSub, ↓reduceIte, reduceCtorEq]
    generalize hc : t.b = c0
    have hc0 : c0.length ≤ bulks bulkT l := by rw [← hc]; exact htb
    refine ev_loop (α := Nat × List UInt8) (fun x => ⟨[(3, .ptr 100 0), (19, .imm false 4 (l.map Thing.dat)), (20, .v (.int .i64 l.length)), (21, .v (.int .i64 (i : Int))), (4, .slc 50 1 0 (outs (l.take i)).length),
        (6, .ptr 6 0), (7, .ptr 7 0), (35, .v (.int .i64 c0.length)), (36, .v (.int .i64 (x.1 : Int)))],
        [(100, .cells [.slc 101 1 0 (outs (l.take i) ++ t.out).length]), (101, .cells (cellsB (outs (l.take i) ++ t.out)))] ++ [(50, .cells (cellsB (outs (l.take i)))), (6, .cells [.v (.int .i64 t.kind), .v (.int .u64 t.n), .v (.int .u64 t.m), .imm false 1 (rowsB c0)]),
          (7, .cells [.v (.int .i64 t.kind), .v (.int .u64 t.n), .v (.int .u64 t.m), .slc 28 1 0 c0.length]), (28, .cells (cellsB x.2))]⟩)
      (fun x => x.1 ≤ c0.length ∧ x.2.length = c0.length) (fun x => c0.length - x.1) (0, c0) ⟨Nat.zero_le _, rfl⟩ (weak_sub (by simp [envSub, Dk.look]) (by simp [subMem, Dk.find])) ?_
    rintro ⟨j, cs⟩ ⟨hj, hcs⟩
    dsimp only at hj hcs
    by_cases h2 : j < c0.length
    · have h2' : (j : Int) < c0.length := by omega
      have hgj : cs[j]? = some cs[j] := List.getElem?_eq_getElem _
      have e8 : IntKind.u8.wrap (((cs[j].toNat : Nat) : Int) + 1) = (((cs[j] + 1).toNat : Nat) : Int) := by
        rw [UInt8.toNat_add]; simp [IntKind.wrap, IntKind.bits, IntKind.signed]
      simp (maxSteps := 2000000) (disch := omega) only [go_sem, Int.reduceEq, Int.reduceNe, Nat.reduceBEq, Nat.reduceLT, Nat.reduceLeDiff, Nat.reduceAdd, Nat.reduceSub, Nat.reduceMul, Nat.reduceEqDiff, Int.reduceLT, Int.reduceLE, Int.reduceNeg, Int.reduceToNat, Int.reduceAdd, Int.reduceSub, ↓reduceIte, reduceCtorEq, h2', hgj, List.head?_drop, e8]
      exact ⟨(j + 1, cs.set j (cs[j] + 1)), ⟨by omega, by simpa using hcs⟩, by simp only; omega, weak_sub (by simp [envSub, Dk.look]) (by simp [subMem, Dk.find])⟩
    · obtain rfl : j = c0.length := by omega
      have h2' : ¬ ((c0.length : Nat) : Int) < c0.length := by omega
      simp (maxSteps := 2000000) (disch := omega) only [go_sem, Int.reduceEq, Int.reduceNe, Nat.reduceBEq, Nat.reduceLT, Nat.reduceLeDiff, Nat.reduceAdd, Nat.reduceSub, Nat.reduceMul, Nat.reduceEqDiff, Int.reduceLT, Int.reduceLE, Int.reduceNeg, Int.reduceToNat, Int.reduceAdd, Int.reduceSub, ↓reduceIte, reduceCtorEq, h2']
      subst hc
      have htl := t.out_len
      refine awCall_con [] [] (Bytes t hto (by omega)) ?_ ?_ ?_ ?_ ?_; (focus kernel_rfl); (focus exact (.inl rfl)); (focus (simp [go_sem]; done)); (focus (simp [go_sem]; done)); rintro _ rfl; simp (maxSteps := 2000000) (disch := omega) only [go_sem, Int.reduceEq, Int.reduceNe, Nat.reduceBEq, Nat.reduceLT, Nat.reduceLeDiff, Nat.reduceAdd, Nat.reduceSub, Nat.reduceMul, Nat.reduceEqDiff, Int.reduceLT, Int.reduceLE, Int.reduceNeg, Int.reduceToNat, Int.reduceAdd, Int.reduceSub, ↓reduceIte, reduceCtorEq]
      rw [List.take_length, ← List.length_append]
      refine awCall_con [(1000, 100), (1001, 101)] [] (Writer_Len (outs (l.take i) ++ t.out)) ?_ ?_ ?_ ?_ ?_; (focus kernel_rfl); (focus exact (.inl rfl)); (focus (simp [go_sem]; done)); (focus (simp [go_sem]; done)); rintro _ rfl; simp (maxSteps := 2000000) (disch := omega) only [go_sem, Int.reduceEq, Int.reduceNe, Nat.reduceBEq, Nat.reduceLT, Nat.reduceLeDiff, Nat.reduceAdd, Nat.reduceSub, Nat.reduceMul, Nat.reduceEqDiff, Int.reduceLT, Int.reduceLE, Int.reduceNeg, Int.reduceToNat, Int.reduceAdd, Int.reduceSub, ↓reduceIte, reduceCtorEq]
      refine ⟨i + 1, h, by omega, ?_⟩
      rw [outs_take l i t hg]
      exact weak_sub (by simp [envSub, Dk.look]) (by simp [subMem, Dk.find])
  · obtain rfl : i = l.length := by omega
    rw [List.take_length] at *
    have h' : ¬ (l.length : Int) < l.length := by omega
    simp (maxSteps := 2000000) (disch := omega) only [go_sem, Int.reduceEq, Int.reduceNe, Nat.reduceBEq, Nat.reduceLT, Nat.reduceLeDiff, Nat.reduceAdd, Nat.reduceSub, Nat.reduceMul, Nat.reduceEqDiff, Int.reduceLT, Int.reduceLE, Int.reduceNeg, Int.reduceToNat, Int.reduceAdd, Int.reduceSub, ↓reduceIte, reduceCtorEq, h']
    refine awCall_con [(1000, 100), (1001, 101), (7, 102)] [] (Writer_Bytes (outs l) (by omega)) ?_ ?_ ?_ ?_ ?_; (focus kernel_rfl); (focus exact (.inl rfl)); (focus (simp [go_sem]; done)); (focus (simp [go_sem]; done)); rintro _ rfl; simp (maxSteps := 2000000) (disch := omega) only [go_sem, Int.reduceEq, Int.reduceNe, Nat.reduceBEq, Nat.reduceLT, Nat.reduceLeDiff, Nat.reduceAdd, Nat.reduceSub, Nat.reduceMul, Nat.reduceEqDiff, Int.reduceLT, Int.reduceLE, Int.reduceNeg, Int.reduceToNat, Int.reduceAdd, Int.reduceSub, ↓reduceIte, reduceCtorEq]
    refine awCall_con [] [102, 50] (same (outs l) (outs l)) ?_ ?_ ?_ ?_ ?_; (focus kernel_rfl); (focus exact (.inr ⟨by simp [AV.strong, strongL], by simp [strongM, strongB, strongL, strongL_cellsB, AV.strong]⟩)); (focus (simp [go_sem, datsL_cellsB, chunk_cellsB]; done)); (focus (simp [go_sem, datsL_cellsB, chunk_cellsB]; done)); rintro _ rfl; simp (maxSteps := 2000000) (disch := omega) only [go_sem, Int.reduceEq, Int.reduceNe, Nat.reduceBEq, Nat.reduceLT, Nat.reduceLeDiff, Nat.reduceAdd, Nat.reduceSub, Nat.reduceMul, Nat.reduceEqDiff, Int.reduceLT, Int.reduceLE, Int.reduceNeg, Int.reduceToNat, Int.reduceAdd, Int.reduceSub, ↓reduceIte, reduceCtorEq]
    refine ev_loop (α := Nat × List UInt8) (fun x => ⟨[(3, .ptr 100 0), (4, .slc 50 1 0 (outs l).length), (9, .slc 102 1 0 (outs l).length), (10, .v (.bool true)), (63, .v (.int .i64 (outs l).length)), (64, .v (.int .i64 (x.1 : Int)))],
        [(100, .cells [.slc 101 1 0 (outs l).length]), (101, .cells (cellsB (outs l)))] ++ [(50, .cells (cellsB (outs l))), (102, .cells (cellsB x.2))]⟩)
      (fun x => x.1 ≤ (outs l).length ∧ x.2.length = (outs l).length) (fun x => (outs l).length - x.1) (0, outs l) ⟨Nat.zero_le _, rfl⟩ (weak_sub (by simp [envSub, Dk.look]) (by simp [subMem, Dk.find])) ?_
    rintro ⟨j, cs⟩ ⟨hj, hcs⟩
    dsimp only at hj hcs
    by_cases h2 : j < (outs l).length
    · have h2' : (j : Int) < (outs l).length := by omega
      have hgj : cs[j]? = some cs[j] := List.getElem?_eq_getElem _
      have e8 : IntKind.u8.wrap (((cs[j].toNat : Nat) : Int) + 1) = (((cs[j] + 1).toNat : Nat) : Int) := by
        rw [UInt8.toNat_add]; simp [IntKind.wrap, IntKind.bits, IntKind.signed]
      simp (maxSteps := 2000000) (disch := omega) only [go_sem, Int.reduceEq, Int.reduceNe, Nat.reduceBEq, Nat.reduceLT, Nat.reduceLeDiff, Nat.reduceAdd, Nat.reduceSub, Nat.reduceMul, Nat.reduceEqDiff, Int.reduceLT, Int.reduceLE, Int.reduceNeg, Int.reduceToNat, Int.reduceAdd, Int.reduceSub, ↓reduceIte, reduceCtorEq, h2', hgj, List.head?_drop, e8]
      exact ⟨(j + 1, cs.set j (cs[j] + 1)), ⟨by omega, by simpa using hcs⟩, by simp only; omega, weak_sub (by simp [envSub, Dk.look]) (by simp [subMem, Dk.find])⟩
    · obtain rfl : j = (outs l).length := by omega
      have h2' : ¬ (((outs l).length : Nat) : Int) < (outs l).length := by omega
      simp (maxSteps := 2000000) (disch := omega) only [go_sem, Int.reduceEq, Int.reduceNe, Nat.reduceBEq, Nat.reduceLT, Nat.reduceLeDiff, Nat.reduceAdd, Nat.reduceSub, Nat.reduceMul, Nat.reduceEqDiff, Int.reduceLT, Int.reduceLE, Int.reduceNeg, Int.reduceToNat, Int.reduceAdd, Int.reduceSub, ↓reduceIte, reduceCtorEq, h2']
      refine awCall_con [(1000, 100), (1001, 101), (7, 103)] [] (Writer_Bytes (outs l) (by omega)) ?_ ?_ ?_ ?_ ?_; (focus kernel_rfl); (focus exact (.inl rfl)); (focus (simp [go_sem]; done)); (focus (simp [go_sem]; done)); rintro _ rfl; simp (maxSteps := 2000000) (disch := omega) only [go_sem, Int.reduceEq, Int.reduceNe, Nat.reduceBEq, Nat.reduceLT, Nat.reduceLeDiff, Nat.reduceAdd, Nat.reduceSub, Nat.reduceMul, Nat.reduceEqDiff, Int.reduceLT, Int.reduceLE, Int.reduceNeg, Int.reduceToNat, Int.reduceAdd, Int.reduceSub, ↓reduceIte, reduceCtorEq]
      refine awCall_con [] [103, 50] (same (outs l) (outs l)) ?_ ?_ ?_ ?_ ?_; (focus kernel_rfl); (focus exact (.inr ⟨by simp [AV.strong, strongL], by simp [strongM, strongB, strongL, strongL_cellsB, AV.strong]⟩)); (focus (simp [go_sem, datsL_cellsB, chunk_cellsB]; done)); (focus (simp [go_sem, datsL_cellsB, chunk_cellsB]; done)); rintro _ rfl; simp (maxSteps := 2000000) (disch := omega) only [go_sem, Int.reduceEq, Int.reduceNe, Nat.reduceBEq, Nat.reduceLT, Nat.reduceLeDiff, Nat.reduceAdd, Nat.reduceSub, Nat.reduceMul, Nat.reduceEqDiff, Int.reduceLT, Int.reduceLE, Int.reduceNeg, Int.reduceToNat, Int.reduceAdd, Int.reduceSub, ↓reduceIte, reduceCtorEq]
      exact fin_ret (by rfl) (by simp [subMem])
end Go.Proofs.Ytjmkgpkgagohoaa
