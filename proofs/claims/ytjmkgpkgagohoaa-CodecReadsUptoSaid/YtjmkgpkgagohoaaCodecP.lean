/-
  CodecP: contracts of functions of the program, and what follows from them.
-/
import Derived.Test.YtjmkgpkgagohoaaTyCodec
import Derived.Test.YtjmkgpkgagohoaaCodecO
import Derived.Test.YtjmkgpkgagohoaaCodecK
set_option linter.all false
namespace Go.Proofs.Ytjmkgpkgagohoaa
open Go Go.Dk
set_option linter.unusedSimpArgs false
set_option linter.unusedVariables false
set_option maxRecDepth 10000
set_option maxHeartbeats 4000000
set_option pp.deepTerms true
set_option pp.maxSteps 1000000

def asksR (l : List Thing) (r : RS) : RS := l.foldl (fun r t => askR t r) r
theorem asks_take (l : List Thing) (i : Nat) (t : Thing) (r : RS) (h : l[i]? = some t) : asksR (l.take (i + 1)) r = askR t (asksR (l.take i) r) := by
  rw [List.take_add_one, h]; simp [asksR]
theorem asks_suf : ∀ (l : List Thing) (r : RS), (asksR l r).1 <:+ r.1
  | [], r => List.suffix_refl _
  | t :: l, r => (asks_suf l (askR t r)).trans (askR_suf t r)

theorem CodecReads (b : List UInt8) (l : List Thing) (ht : ∀ t ∈ l, t.ok) (hl : b.length < 10000000000) (hn : l.length < 10000000000) :
    (Con.mk [.imm false 1 (rowsB b), .imm false 4 (l.map Thing.dat)] [] [] (.v (.bool true)) []).ok Try.prog 5 := by
  refine ⟨?_, by simp [Con.wf, ids, inA, inM, inB, inL_nil, inL_cons, inL_append, inL_cellsB, inL_dat]⟩
  refine con_of_ev true [0, 1, 4, 5, 6, 7, 8, 10, 11, 21, 23, 24, 25, 36, 37, 38, 39, 50] 57 Try.func5 (code := _) rfl rfl Try.ntmps5 (by simp) [.tmp 4] (by rw [Try.results5]) ?_
  simp (maxSteps := 2000000) (disch := omega) only [go_sem, List.length_map, Int.reduceEq, Int.reduceNe, Nat.reduceBEq, Nat.reduceLT, Nat.reduceLeDiff, Nat.reduceAdd, Nat.reduceSub, Nat.reduceMul, Nat.reduceEqDiff, Int.reduceLT, Int.reduceLE, Int.reduceNeg, Int.reduceToNat, Int.reduceAdd, Int.reduceSub, ↓reduceIte, reduceCtorEq]
  refine awCall_con [(6, 200)] [13] (Read b (by omega)) ?_ ?_ ?_ ?_ ?_; (focus kernel_rfl); (focus exact (.inr ⟨by simp [AV.strong, strongL], by simp [strongM, strongB, strongL, strongL_cellsB, AV.strong]⟩)); (focus (simp [go_sem, datsL_cellsB, chunk_cellsB]; done)); (focus (simp [go_sem, datsL_cellsB, chunk_cellsB]; done)); rintro _ rfl; simp (maxSteps := 2000000) (disch := omega) only [go_sem, List.length_map, Int.reduceEq, Int.reduceNe, Nat.reduceBEq, Nat.reduceLT, Nat.reduceLeDiff, Nat.reduceAdd, Nat.reduceSub, Nat.reduceMul, Nat.reduceEqDiff, Int.reduceLT, Int.reduceLE, Int.reduceNeg, Int.reduceToNat, Int.reduceAdd, Int.reduceSub, ↓reduceIte, reduceCtorEq]
  refine awCall_con [] [] (alive) ?_ ?_ ?_ ?_ ?_; (focus kernel_rfl); (focus exact (.inl rfl)); (focus (simp [go_sem]; done)); (focus (simp [go_sem]; done)); rintro _ rfl; simp (maxSteps := 2000000) (disch := omega) only [go_sem, List.length_map, Int.reduceEq, Int.reduceNe, Nat.reduceBEq, Nat.reduceLT, Nat.reduceLeDiff, Nat.reduceAdd, Nat.reduceSub, Nat.reduceMul, Nat.reduceEqDiff, Int.reduceLT, Int.reduceLE, Int.reduceNeg, Int.reduceToNat, Int.reduceAdd, Int.reduceSub, ↓reduceIte, reduceCtorEq]
  refine ev_loop (α := Nat × List UInt8) (fun x => ⟨[(0, .imm false 1 (rowsB b)), (1, .imm false 4 (l.map Thing.dat)), (6, .ptr 200 0), (5, .slc 13 1 0 b.length), (23, .v (.int .i64 b.length)), (24, .v (.int .i64 (x.1 : Int)))],
      [(200, .cells [.imm false 1 (rowsB (b)), .v (.int .i64 (0))])] ++ [(13, .cells (cellsB x.2))]⟩)
    (fun x => x.1 ≤ b.length ∧ x.2.length = b.length) (fun x => b.length - x.1) (0, b) ⟨Nat.zero_le _, rfl⟩ (Weak.trans (weak_soft 200 rfl) (weak_sub (by simp [envSub, Dk.look]) (by simp [subMem, Dk.find, Dk.put, Dk.erase, soft]))) ?_
  rintro ⟨j, cs⟩ ⟨hj, hcs⟩
  dsimp only at hj hcs
  by_cases h2 : j < b.length
  · have h2' : (j : Int) < b.length := by omega
    have hgj : cs[j]? = some cs[j] := List.getElem?_eq_getElem _
    simp (maxSteps := 2000000) (disch := omega) only [go_sem, List.length_map, Int.reduceEq, Int.reduceNe, Nat.reduceBEq, Nat.reduceLT, Nat.reduceLeDiff, Nat.reduceAdd, Nat.reduceSub, Nat.reduceMul, Nat.reduceEqDiff, Int.reduceLT, Int.reduceLE, Int.reduceNeg, Int.reduceToNat, Int.reduceAdd, Int.reduceSub, ↓reduceIte, reduceCtorEq, h2', hgj, List.head?_drop]
    obtain ⟨c, hc⟩ : ∃ c : UInt8, (BitVec.ofInt 8 (cs[j].toNat : Int) ^^^ BitVec.ofInt 8 255).toNat = c.toNat :=
      ⟨UInt8.ofNat (BitVec.ofInt 8 (cs[j].toNat : Int) ^^^ BitVec.ofInt 8 255).toNat, by
        rw [UInt8.toNat_ofNat', Nat.mod_eq_of_lt (BitVec.ofInt 8 (cs[j].toNat : Int) ^^^ BitVec.ofInt 8 255).isLt]⟩
    erw [hc]
    rw [cellsB_set]
    exact ⟨(j + 1, cs.set j c), ⟨by omega, by simpa using hcs⟩, by simp only; omega, weak_sub (by simp [envSub, Dk.look]) (by simp [subMem, Dk.find])⟩
  · obtain rfl : j = b.length := by omega
    have h2' : ¬ ((b.length : Nat) : Int) < b.length := by omega
    simp (maxSteps := 2000000) (disch := omega) only [go_sem, List.length_map, Int.reduceEq, Int.reduceNe, Nat.reduceBEq, Nat.reduceLT, Nat.reduceLeDiff, Nat.reduceAdd, Nat.reduceSub, Nat.reduceMul, Nat.reduceEqDiff, Int.reduceLT, Int.reduceLE, Int.reduceNeg, Int.reduceToNat, Int.reduceAdd, Int.reduceSub, ↓reduceIte, reduceCtorEq, h2']
    refine ev_loop (α := Nat) (fun i => ⟨[(6, .ptr 200 0), (8, .ptr 8 0), (36, .imm false 4 (l.map Thing.dat)), (37, .v (.int .i64 l.length)), (38, .v (.int .i64 (i : Int)))],
        [(200, .cells [.imm false 1 (rowsB ((asksR (l.take i) (b, 0)).1)), .v (.int .i64 ((asksR (l.take i) (b, 0)).2))])] ++ [(8, .cells [.imm false 1 (rowsB b), .v (.int .i64 ((b.length - (asksR (l.take i) (b, 0)).1.length : Nat) : Int)), .v (.int .i64 (asksR (l.take i) (b, 0)).2)])]⟩)
      (fun i => i ≤ l.length) (fun i => l.length - i) 0 (Nat.zero_le _) (weak_sub (by simp [envSub, Dk.look]) (by simp [subMem, Dk.find, asksR])) ?_
    intro i hi
    have hsf := asks_suf (l.take i) (b, 0)
    by_cases h : i < l.length
    · have h' : (i : Int) < l.length := by omega
      obtain ⟨t, hg⟩ : ∃ t, l[i]? = some t := ⟨_, List.getElem?_eq_getElem h⟩
      have hg' : (l.map Thing.dat)[i]? = some t.dat := by rw [List.getElem?_map, hg]; rfl
      have hto := ht t (List.mem_of_getElem? hg)
      have hbt := asks_take l i t (b, 0) hg
      obtain ⟨rs2, e2, hr2⟩ : ∃ rs2 e2, asksR (l.take (i + 1)) (b, 0) = (rs2, e2) := ⟨_, _, rfl⟩
      rw [hr2] at hbt
      generalize asksR (l.take i) (b, 0) = r1 at hsf hbt ⊢
      obtain ⟨rs, e⟩ := r1
      dsimp only at hsf
      simp (maxSteps := 2000000) (disch := omega) only [go_sem, List.length_map, Int.reduceEq, Int.reduceNe, Nat.reduceBEq, Nat.reduceLT, Nat.reduceLeDiff, Nat.reduceAdd, Nat.reduceSub, Nat.reduceMul, Nat.reduceEqDiff, Int.reduceLT, Int.reduceLE, Int.reduceNeg, Int.reduceToNat, Int.reduceAdd, Int.reduceSub, ↓reduceIte, reduceCtorEq, h', hg', Thing.dat]
      refine awCall_con [(1000, 200)] [] (Asked b rs e t hto hsf (by omega) hbt.symm) ?_ ?_ ?_ ?_ ?_; (focus kernel_rfl); (focus exact (.inl rfl)); (focus (simp [go_sem]; done)); (focus (simp [go_sem]; done)); rintro _ rfl; simp (maxSteps := 2000000) (disch := omega) only [go_sem, List.length_map, Int.reduceEq, Int.reduceNe, Nat.reduceBEq, Nat.reduceLT, Nat.reduceLeDiff, Nat.reduceAdd, Nat.reduceSub, Nat.reduceMul, Nat.reduceEqDiff, Int.reduceLT, Int.reduceLE, Int.reduceNeg, Int.reduceToNat, Int.reduceAdd, Int.reduceSub, ↓reduceIte, reduceCtorEq]
      refine ⟨i + 1, h, by omega, ?_⟩
      rw [hr2]
      exact weak_sub (by simp [envSub, Dk.look]) (by simp [subMem, Dk.find])
    · obtain rfl : i = l.length := by omega
      have h' : ¬ (l.length : Int) < l.length := by omega
      rw [List.take_length] at *
      generalize asksR l (b, 0) = r1 at *
      obtain ⟨rs, e⟩ := r1
      dsimp only at hsf
      obtain ⟨x, hx⟩ : ∃ x : Int, (if e = 0 ∧ rs ≠ [] then (13 : Int) else e) = x := ⟨_, rfl⟩
      simp (maxSteps := 2000000) (disch := omega) only [go_sem, List.length_map, Int.reduceEq, Int.reduceNe, Nat.reduceBEq, Nat.reduceLT, Nat.reduceLeDiff, Nat.reduceAdd, Nat.reduceSub, Nat.reduceMul, Nat.reduceEqDiff, Int.reduceLT, Int.reduceLE, Int.reduceNeg, Int.reduceToNat, Int.reduceAdd, Int.reduceSub, ↓reduceIte, reduceCtorEq, h']
      refine z_draw [⟨[(6, none)], [], false, [0]⟩, ⟨[(52, some 0)], [0], true, []⟩, ⟨[(8, none)], [], false, [0, 1]⟩, ⟨[(54, some 2)], [0, 1, 2], true, []⟩, ⟨[(53, some 1), (55, some 3)], [0, 1, 2, 3], false, [2]⟩, ⟨[(56, some 4)], [0, 1, 2, 3, 4], false, [2]⟩] [1, 3] [(0, none), (1, none), (4, some 5), (5, none), (6, none), (7, none), (8, none), (10, none), (11, none), (21, none), (23, none), (24, none), (25, none), (36, none), (37, none), (38, none), (39, none), (50, none)] [(8, none, 1), (54, some 2, 1), (53, some 1, 3), (0, none, 1), (0, none, 3), (1, none, 1), (1, none, 3), (5, none, 1), (5, none, 3), (6, none, 1), (6, none, 3), (7, none, 1), (7, none, 3), (8, none, 3), (10, none, 1), (10, none, 3), (11, none, 1), (11, none, 3), (21, none, 1), (21, none, 3), (23, none, 1), (23, none, 3), (24, none, 1), (24, none, 3), (25, none, 1), (25, none, 3), (36, none, 1), (36, none, 3), (37, none, 1), (37, none, 3), (38, none, 1), (38, none, 3), (39, none, 1), (39, none, 3), (50, none, 1), (50, none, 3)] mixed (by kernel_rfl) (by kernel_rfl) (by kernel_rfl) ?_
      simp (maxSteps := 2000000) (disch := omega) only [go_sem, List.length_map, Int.reduceEq, Int.reduceNe, Nat.reduceBEq, Nat.reduceLT, Nat.reduceLeDiff, Nat.reduceAdd, Nat.reduceSub, Nat.reduceMul, Nat.reduceEqDiff, Int.reduceLT, Int.reduceLE, Int.reduceNeg, Int.reduceToNat, Int.reduceAdd, Int.reduceSub, ↓reduceIte, reduceCtorEq]
      refine evCall_con [(1000, 200)] [] (Reader_End' rs e (e2 := x) hx) ?_ ?_ ?_ ?_ ?_; (focus kernel_rfl); (focus exact (.inl rfl)); (focus (simp [go_sem]; done)); (focus (simp [go_sem]; done)); rintro _ rfl; simp (maxSteps := 2000000) (disch := omega) only [go_sem, List.length_map, Int.reduceEq, Int.reduceNe, Nat.reduceBEq, Nat.reduceLT, Nat.reduceLeDiff, Nat.reduceAdd, Nat.reduceSub, Nat.reduceMul, Nat.reduceEqDiff, Int.reduceLT, Int.reduceLE, Int.reduceNeg, Int.reduceToNat, Int.reduceAdd, Int.reduceSub, ↓reduceIte, reduceCtorEq]
      refine evCall_con [] [] (rEnd b rs e (by omega) hsf hx) ?_ ?_ ?_ ?_ ?_; (focus kernel_rfl); (focus exact (.inl rfl)); (focus (simp [go_sem]; done)); (focus (simp [go_sem]; done)); rintro _ rfl; simp (maxSteps := 2000000) (disch := omega) only [go_sem, List.length_map, Int.reduceEq, Int.reduceNe, Nat.reduceBEq, Nat.reduceLT, Nat.reduceLeDiff, Nat.reduceAdd, Nat.reduceSub, Nat.reduceMul, Nat.reduceEqDiff, Int.reduceLT, Int.reduceLE, Int.reduceNeg, Int.reduceToNat, Int.reduceAdd, Int.reduceSub, ↓reduceIte, reduceCtorEq]
      exact fin_ret (by rfl) (by simp [subMem])
end Go.Proofs.Ytjmkgpkgagohoaa
