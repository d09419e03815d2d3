/-
  CodecM: contracts of functions of the program, and what follows from them.
-/
import Derived.Test.YtjmkgpkgagohoaaTyCodec
import Derived.Test.YtjmkgpkgagohoaaCodecJ
import Derived.Test.YtjmkgpkgagohoaaPlBack
import Derived.Test.YtjmkgpkgagohoaaDk3
set_option linter.all false
namespace Go.Proofs.Ytjmkgpkgagohoaa
open Go Go.Dk
set_option linter.unusedSimpArgs false
set_option linter.unusedVariables false
set_option maxRecDepth 10000
set_option maxHeartbeats 4000000
set_option pp.deepTerms true
set_option pp.maxSteps 1000000

theorem decN (a b : Nat) : decide ((a : Int) = (b : Int)) = decide (a = b) := by
  by_cases h : a = b
  · subst h; simp
  · rw [decide_eq_false h, decide_eq_false (by omega)]

theorem Back (rs : List UInt8) (e : Int) (t : Thing) (ht : t.ok) (hl : rs.length < 100000000000) (hb : t.b.length < 100000000000) {r : Bool} {rs2 : List UInt8} {e2 : Int} (h : backR t (rs, e) = (r, rs2, e2)) :
    (Con.mk [.ptr 1000 0, .agg [.v (.int .i64 t.kind), .v (.int .u64 t.n), .v (.int .u64 t.m), .imm false 1 (rowsB t.b)]] [(1000, .cells [.imm false 1 (rowsB (rs)), .v (.int .i64 (e))])] [1000] (.v (.bool r)) [(1000, .cells [.imm false 1 (rowsB (rs2)), .v (.int .i64 (e2))])]).ok Try.prog 29 := by
  refine ⟨?_, by simp [Con.wf, ids, inA, inM, inB, inL_nil, inL_cons, inL_append, inL_cellsB, inL_dat]⟩
  obtain ⟨kind, n, m, b⟩ := t
  obtain ⟨⟨h1, h2⟩, h3, h4⟩ := ht
  dsimp only at h1 h2 h3 h4 hl hb
  refine con_of_ev true [0, 1, 3, 4, 6, 7, 15, 23, 30, 39, 49] 59 Try.func29 (code := _) rfl rfl Try.ntmps29 (by simp) [.tmp 4] (by rw [Try.results29]) ?_
  simp (maxSteps := 2000000) (disch := omega) only [go_sem, List.length_map, Int.reduceEq, Int.reduceNe, Nat.reduceBEq, Nat.reduceLT, Nat.reduceLeDiff, Nat.reduceAdd, Nat.reduceSub, Nat.reduceMul, Nat.reduceEqDiff, Int.reduceLT, Int.reduceLE, Int.reduceNeg, Int.reduceToNat, Int.reduceAdd, Int.reduceSub, ↓reduceIte, reduceCtorEq]
  refine awIf2_dec (fun c0 => ?_) (fun c0 => ?_)
  · subst c0
    obtain ⟨n1, rs1, e1, hh⟩ : ∃ n1 rs1 e1, highR 1 (rs, e) = (n1, rs1, e1) := ⟨_, _, _, rfl⟩
    have h' : (decide ((highR 1 (rs, e)).1 = n % 256), (highR 1 (rs, e)).2) = (r, rs2, e2) := h
    rw [hh] at h'
    simp only [Prod.mk.injEq] at h'
    obtain ⟨rfl, rfl, rfl⟩ := h'
    have hw : IntKind.u8.wrap (n : Int) = ((n % 256 : Nat) : Int) := by simp [IntKind.wrap, IntKind.bits, IntKind.signed]
    simp (maxSteps := 2000000) (disch := omega) only [go_sem, List.length_map, Int.reduceEq, Int.reduceNe, Nat.reduceBEq, Nat.reduceLT, Nat.reduceLeDiff, Nat.reduceAdd, Nat.reduceSub, Nat.reduceMul, Nat.reduceEqDiff, Int.reduceLT, Int.reduceLE, Int.reduceNeg, Int.reduceToNat, Int.reduceAdd, Int.reduceSub, ↓reduceIte, reduceCtorEq]
    refine z_draw [⟨[(0, none)], [], false, [0]⟩, ⟨[(9, some 0)], [0], true, []⟩, ⟨[(3, none)], [], false, [0, 1]⟩, ⟨[(11, some 2)], [2], false, [0, 1]⟩, ⟨[(12, some 3)], [2, 3], false, [0, 1]⟩, ⟨[(10, some 1), (13, some 4)], [0, 1, 2, 3, 4], false, [1]⟩, ⟨[(14, some 5)], [0, 1, 2, 3, 4, 5], false, [1]⟩] [1] [(0, none), (1, none), (3, none), (4, some 6), (6, none), (7, none), (15, none), (23, none), (30, none), (39, none), (49, none)] [(3, none, 1), (11, some 2, 1), (12, some 3, 1), (13, some 4, 1), (0, none, 1), (1, none, 1), (6, none, 1), (7, none, 1), (15, none, 1), (23, none, 1), (30, none, 1), (39, none, 1), (49, none, 1)] mixed (by kernel_rfl) (by kernel_rfl) (by kernel_rfl) ?_
    simp (maxSteps := 2000000) (disch := omega) only [go_sem, List.length_map, Int.reduceEq, Int.reduceNe, Nat.reduceBEq, Nat.reduceLT, Nat.reduceLeDiff, Nat.reduceAdd, Nat.reduceSub, Nat.reduceMul, Nat.reduceEqDiff, Int.reduceLT, Int.reduceLE, Int.reduceNeg, Int.reduceToNat, Int.reduceAdd, Int.reduceSub, ↓reduceIte, reduceCtorEq]
    refine evCall_con [] [] (Reader_Byte rs e (by omega) hh) ?_ ?_ ?_ ?_ ?_; (focus kernel_rfl); (focus exact (.inl rfl)); (focus (simp [go_sem]; done)); (focus (simp [go_sem]; done)); rintro _ rfl; simp (maxSteps := 2000000) (disch := omega) only [go_sem, List.length_map, Int.reduceEq, Int.reduceNe, Nat.reduceBEq, Nat.reduceLT, Nat.reduceLeDiff, Nat.reduceAdd, Nat.reduceSub, Nat.reduceMul, Nat.reduceEqDiff, Int.reduceLT, Int.reduceLE, Int.reduceNeg, Int.reduceToNat, Int.reduceAdd, Int.reduceSub, ↓reduceIte, reduceCtorEq]
    rw [hw, decN]
    exact fin_ret (by rfl) (by simp [subMem, Dk.find])
  · simp (maxSteps := 2000000) (disch := omega) only [go_sem, List.length_map, Int.reduceEq, Int.reduceNe, Nat.reduceBEq, Nat.reduceLT, Nat.reduceLeDiff, Nat.reduceAdd, Nat.reduceSub, Nat.reduceMul, Nat.reduceEqDiff, Int.reduceLT, Int.reduceLE, Int.reduceNeg, Int.reduceToNat, Int.reduceAdd, Int.reduceSub, ↓reduceIte, reduceCtorEq]
    refine awIf2_dec (fun c1 => ?_) (fun c1 => ?_)
    · subst c1
      obtain ⟨n1, rs1, e1, hh⟩ : ∃ n1 rs1 e1, highR 4 (rs, e) = (n1, rs1, e1) := ⟨_, _, _, rfl⟩
      have h' : (decide ((highR 4 (rs, e)).1 = n % 4294967296), (highR 4 (rs, e)).2) = (r, rs2, e2) := h
      rw [hh] at h'
      simp only [Prod.mk.injEq] at h'
      obtain ⟨rfl, rfl, rfl⟩ := h'
      have hw : IntKind.u32.wrap (n : Int) = ((n % 4294967296 : Nat) : Int) := by simp [IntKind.wrap, IntKind.bits, IntKind.signed]
      simp (maxSteps := 2000000) (disch := omega) only [go_sem, List.length_map, Int.reduceEq, Int.reduceNe, Nat.reduceBEq, Nat.reduceLT, Nat.reduceLeDiff, Nat.reduceAdd, Nat.reduceSub, Nat.reduceMul, Nat.reduceEqDiff, Int.reduceLT, Int.reduceLE, Int.reduceNeg, Int.reduceToNat, Int.reduceAdd, Int.reduceSub, ↓reduceIte, reduceCtorEq]
      refine z_draw [⟨[(0, none)], [], false, [0]⟩, ⟨[(17, some 0)], [0], true, []⟩, ⟨[(3, none)], [], false, [0, 1]⟩, ⟨[(19, some 2)], [2], false, [0, 1]⟩, ⟨[(20, some 3)], [2, 3], false, [0, 1]⟩, ⟨[(18, some 1), (21, some 4)], [0, 1, 2, 3, 4], false, [1]⟩, ⟨[(22, some 5)], [0, 1, 2, 3, 4, 5], false, [1]⟩] [1] [(0, none), (1, none), (3, none), (4, some 6), (6, none), (7, none), (15, none), (23, none), (30, none), (39, none), (49, none)] [(3, none, 1), (19, some 2, 1), (20, some 3, 1), (21, some 4, 1), (0, none, 1), (1, none, 1), (6, none, 1), (7, none, 1), (15, none, 1), (23, none, 1), (30, none, 1), (39, none, 1), (49, none, 1)] mixed (by kernel_rfl) (by kernel_rfl) (by kernel_rfl) ?_
      simp (maxSteps := 2000000) (disch := omega) only [go_sem, List.length_map, Int.reduceEq, Int.reduceNe, Nat.reduceBEq, Nat.reduceLT, Nat.reduceLeDiff, Nat.reduceAdd, Nat.reduceSub, Nat.reduceMul, Nat.reduceEqDiff, Int.reduceLT, Int.reduceLE, Int.reduceNeg, Int.reduceToNat, Int.reduceAdd, Int.reduceSub, ↓reduceIte, reduceCtorEq]
      refine evCall_con [] [] (Reader_Word rs e (by omega) hh) ?_ ?_ ?_ ?_ ?_; (focus kernel_rfl); (focus exact (.inl rfl)); (focus (simp [go_sem]; done)); (focus (simp [go_sem]; done)); rintro _ rfl; simp (maxSteps := 2000000) (disch := omega) only [go_sem, List.length_map, Int.reduceEq, Int.reduceNe, Nat.reduceBEq, Nat.reduceLT, Nat.reduceLeDiff, Nat.reduceAdd, Nat.reduceSub, Nat.reduceMul, Nat.reduceEqDiff, Int.reduceLT, Int.reduceLE, Int.reduceNeg, Int.reduceToNat, Int.reduceAdd, Int.reduceSub, ↓reduceIte, reduceCtorEq]
      rw [hw, decN]
      exact fin_ret (by rfl) (by simp [subMem, Dk.find])
    · simp (maxSteps := 2000000) (disch := omega) only [go_sem, List.length_map, Int.reduceEq, Int.reduceNe, Nat.reduceBEq, Nat.reduceLT, Nat.reduceLeDiff, Nat.reduceAdd, Nat.reduceSub, Nat.reduceMul, Nat.reduceEqDiff, Int.reduceLT, Int.reduceLE, Int.reduceNeg, Int.reduceToNat, Int.reduceAdd, Int.reduceSub, ↓reduceIte, reduceCtorEq]
      refine awIf2_dec (fun c2 => ?_) (fun c2 => ?_)
      · subst c2
        obtain ⟨n1, rs1, e1, hh⟩ : ∃ n1 rs1 e1, highR 8 (rs, e) = (n1, rs1, e1) := ⟨_, _, _, rfl⟩
        have h' : (decide ((highR 8 (rs, e)).1 = n), (highR 8 (rs, e)).2) = (r, rs2, e2) := h
        rw [hh] at h'
        simp only [Prod.mk.injEq] at h'
        obtain ⟨rfl, rfl, rfl⟩ := h'
        simp (maxSteps := 2000000) (disch := omega) only [go_sem, List.length_map, Int.reduceEq, Int.reduceNe, Nat.reduceBEq, Nat.reduceLT, Nat.reduceLeDiff, Nat.reduceAdd, Nat.reduceSub, Nat.reduceMul, Nat.reduceEqDiff, Int.reduceLT, Int.reduceLE, Int.reduceNeg, Int.reduceToNat, Int.reduceAdd, Int.reduceSub, ↓reduceIte, reduceCtorEq]
        refine z_draw [⟨[(0, none)], [], false, [0]⟩, ⟨[(25, some 0)], [0], true, []⟩, ⟨[(3, none)], [], false, [0, 1]⟩, ⟨[(27, some 2)], [2], false, [0, 1]⟩, ⟨[(26, some 1), (28, some 3)], [0, 1, 2, 3], false, [1]⟩, ⟨[(29, some 4)], [0, 1, 2, 3, 4], false, [1]⟩] [1] [(0, none), (1, none), (3, none), (4, some 5), (6, none), (7, none), (15, none), (23, none), (30, none), (39, none), (49, none)] [(3, none, 1), (27, some 2, 1), (28, some 3, 1), (0, none, 1), (1, none, 1), (6, none, 1), (7, none, 1), (15, none, 1), (23, none, 1), (30, none, 1), (39, none, 1), (49, none, 1)] mixed (by kernel_rfl) (by kernel_rfl) (by kernel_rfl) ?_
        simp (maxSteps := 2000000) (disch := omega) only [go_sem, List.length_map, Int.reduceEq, Int.reduceNe, Nat.reduceBEq, Nat.reduceLT, Nat.reduceLeDiff, Nat.reduceAdd, Nat.reduceSub, Nat.reduceMul, Nat.reduceEqDiff, Int.reduceLT, Int.reduceLE, Int.reduceNeg, Int.reduceToNat, Int.reduceAdd, Int.reduceSub, ↓reduceIte, reduceCtorEq]
        refine evCall_con [] [] (Reader_Long rs e (by omega) hh) ?_ ?_ ?_ ?_ ?_; (focus kernel_rfl); (focus exact (.inl rfl)); (focus (simp [go_sem]; done)); (focus (simp [go_sem]; done)); rintro _ rfl; simp (maxSteps := 2000000) (disch := omega) only [go_sem, List.length_map, Int.reduceEq, Int.reduceNe, Nat.reduceBEq, Nat.reduceLT, Nat.reduceLeDiff, Nat.reduceAdd, Nat.reduceSub, Nat.reduceMul, Nat.reduceEqDiff, Int.reduceLT, Int.reduceLE, Int.reduceNeg, Int.reduceToNat, Int.reduceAdd, Int.reduceSub, ↓reduceIte, reduceCtorEq]
        rw [decN]
        exact fin_ret (by rfl) (by simp [subMem, Dk.find])
      · simp (maxSteps := 2000000) (disch := omega) only [go_sem, List.length_map, Int.reduceEq, Int.reduceNe, Nat.reduceBEq, Nat.reduceLT, Nat.reduceLeDiff, Nat.reduceAdd, Nat.reduceSub, Nat.reduceMul, Nat.reduceEqDiff, Int.reduceLT, Int.reduceLE, Int.reduceNeg, Int.reduceToNat, Int.reduceAdd, Int.reduceSub, ↓reduceIte, reduceCtorEq]
        refine awIf2_dec (fun c3 => ?_) (fun c3 => ?_)
        · subst c3
          obtain ⟨n1, rs1, e1, hh⟩ : ∃ n1 rs1 e1, varR n (rs, e) = (n1, rs1, e1) := ⟨_, _, _, rfl⟩
          have h' : (decide ((varR n (rs, e)).1 = n), (varR n (rs, e)).2) = (r, rs2, e2) := h
          rw [hh] at h'
          simp only [Prod.mk.injEq] at h'
          obtain ⟨rfl, rfl, rfl⟩ := h'
          simp (maxSteps := 2000000) (disch := omega) only [go_sem, List.length_map, Int.reduceEq, Int.reduceNe, Nat.reduceBEq, Nat.reduceLT, Nat.reduceLeDiff, Nat.reduceAdd, Nat.reduceSub, Nat.reduceMul, Nat.reduceEqDiff, Int.reduceLT, Int.reduceLE, Int.reduceNeg, Int.reduceToNat, Int.reduceAdd, Int.reduceSub, ↓reduceIte, reduceCtorEq]
          refine z_draw [⟨[(0, none)], [], false, [0]⟩, ⟨[(3, none)], [], false, [0]⟩, ⟨[(33, some 1)], [1], false, [0]⟩, ⟨[(32, some 0), (34, some 2)], [0, 1, 2], true, []⟩, ⟨[(3, none)], [], false, [0, 1]⟩, ⟨[(36, some 4)], [4], false, [0, 1]⟩, ⟨[(35, some 3), (37, some 5)], [0, 1, 2, 3, 4, 5], false, [1]⟩, ⟨[(38, some 6)], [0, 1, 2, 3, 4, 5, 6], false, [1]⟩] [3] [(0, none), (1, none), (3, none), (4, some 7), (6, none), (7, none), (15, none), (23, none), (30, none), (39, none), (49, none)] [(3, none, 3), (36, some 4, 3), (37, some 5, 3), (0, none, 3), (1, none, 3), (6, none, 3), (7, none, 3), (15, none, 3), (23, none, 3), (30, none, 3), (39, none, 3), (49, none, 3)] mixed (by kernel_rfl) (by kernel_rfl) (by kernel_rfl) ?_
          simp (maxSteps := 2000000) (disch := omega) only [go_sem, List.length_map, Int.reduceEq, Int.reduceNe, Nat.reduceBEq, Nat.reduceLT, Nat.reduceLeDiff, Nat.reduceAdd, Nat.reduceSub, Nat.reduceMul, Nat.reduceEqDiff, Int.reduceLT, Int.reduceLE, Int.reduceNeg, Int.reduceToNat, Int.reduceAdd, Int.reduceSub, ↓reduceIte, reduceCtorEq]
          refine evCall_con [] [] (Reader_Var rs e n (by omega) hh) ?_ ?_ ?_ ?_ ?_; (focus kernel_rfl); (focus exact (.inl rfl)); (focus (simp [go_sem]; done)); (focus (simp [go_sem]; done)); rintro _ rfl; simp (maxSteps := 2000000) (disch := omega) only [go_sem, List.length_map, Int.reduceEq, Int.reduceNe, Nat.reduceBEq, Nat.reduceLT, Nat.reduceLeDiff, Nat.reduceAdd, Nat.reduceSub, Nat.reduceMul, Nat.reduceEqDiff, Int.reduceLT, Int.reduceLE, Int.reduceNeg, Int.reduceToNat, Int.reduceAdd, Int.reduceSub, ↓reduceIte, reduceCtorEq]
          rw [decN]
          exact fin_ret (by rfl) (by simp [subMem, Dk.find])
        · simp (maxSteps := 2000000) (disch := omega) only [go_sem, List.length_map, Int.reduceEq, Int.reduceNe, Nat.reduceBEq, Nat.reduceLT, Nat.reduceLeDiff, Nat.reduceAdd, Nat.reduceSub, Nat.reduceMul, Nat.reduceEqDiff, Int.reduceLT, Int.reduceLE, Int.reduceNeg, Int.reduceToNat, Int.reduceAdd, Int.reduceSub, ↓reduceIte, reduceCtorEq]
          refine awIf2_dec (fun c4 => ?_) (fun c4 => ?_)
          · subst c4
            obtain ⟨l, rs1, e1, hh⟩ : ∃ l rs1 e1, rawR b.length (rs, e) = (l, rs1, e1) := ⟨_, _, _, rfl⟩
            have h' : (decide ((rawR b.length (rs, e)).1 = b), (rawR b.length (rs, e)).2) = (r, rs2, e2) := h
            rw [hh] at h'
            simp only [Prod.mk.injEq] at h'
            obtain ⟨rfl, rfl, rfl⟩ := h'
            simp (maxSteps := 2000000) (disch := omega) only [go_sem, List.length_map, Int.reduceEq, Int.reduceNe, Nat.reduceBEq, Nat.reduceLT, Nat.reduceLeDiff, Nat.reduceAdd, Nat.reduceSub, Nat.reduceMul, Nat.reduceEqDiff, Int.reduceLT, Int.reduceLE, Int.reduceNeg, Int.reduceToNat, Int.reduceAdd, Int.reduceSub, ↓reduceIte, reduceCtorEq]
            refine z_draw [⟨[(0, none)], [], false, [0]⟩, ⟨[(3, none)], [], false, [0]⟩, ⟨[(42, some 1)], [1], false, [0]⟩, ⟨[(43, some 2)], [1, 2], false, [0]⟩, ⟨[(41, some 0), (44, some 3)], [0, 1, 2, 3], true, []⟩, ⟨[(3, none)], [], false, [0, 1]⟩, ⟨[(46, some 5)], [5], false, [0, 1]⟩, ⟨[(45, some 4), (47, some 6)], [0, 1, 2, 3, 4, 5, 6], true, []⟩, ⟨[(48, some 7)], [0, 1, 2, 3, 4, 5, 6, 7], false, [2]⟩] [4, 7] [(0, none), (1, none), (3, none), (4, some 8), (6, none), (7, none), (15, none), (23, none), (30, none), (39, none), (49, none)] [(3, none, 4), (46, some 5, 4), (47, some 6, 4), (0, none, 4), (0, none, 7), (1, none, 4), (1, none, 7), (3, none, 7), (6, none, 4), (6, none, 7), (7, none, 4), (7, none, 7), (15, none, 4), (15, none, 7), (23, none, 4), (23, none, 7), (30, none, 4), (30, none, 7), (39, none, 4), (39, none, 7), (49, none, 4), (49, none, 7)] mixed (by kernel_rfl) (by kernel_rfl) (by kernel_rfl) ?_
            simp (maxSteps := 2000000) (disch := omega) only [go_sem, List.length_map, Int.reduceEq, Int.reduceNe, Nat.reduceBEq, Nat.reduceLT, Nat.reduceLeDiff, Nat.reduceAdd, Nat.reduceSub, Nat.reduceMul, Nat.reduceEqDiff, Int.reduceLT, Int.reduceLE, Int.reduceNeg, Int.reduceToNat, Int.reduceAdd, Int.reduceSub, ↓reduceIte, reduceCtorEq]
            refine evCall_con [] [] (Reader_Raw rs e b.length (by omega) (by omega) hh) ?_ ?_ ?_ ?_ ?_; (focus kernel_rfl); (focus exact (.inl rfl)); (focus (simp [go_sem]; done)); (focus (simp [go_sem]; done)); rintro _ rfl; simp (maxSteps := 2000000) (disch := omega) only [go_sem, List.length_map, Int.reduceEq, Int.reduceNe, Nat.reduceBEq, Nat.reduceLT, Nat.reduceLeDiff, Nat.reduceAdd, Nat.reduceSub, Nat.reduceMul, Nat.reduceEqDiff, Int.reduceLT, Int.reduceLE, Int.reduceNeg, Int.reduceToNat, Int.reduceAdd, Int.reduceSub, ↓reduceIte, reduceCtorEq]
            refine evCall_con [] [] (same l b) ?_ ?_ ?_ ?_ ?_; (focus kernel_rfl); (focus exact (.inl rfl)); (focus (simp [go_sem]; done)); (focus (simp [go_sem]; done)); rintro _ rfl; simp (maxSteps := 2000000) (disch := omega) only [go_sem, List.length_map, Int.reduceEq, Int.reduceNe, Nat.reduceBEq, Nat.reduceLT, Nat.reduceLeDiff, Nat.reduceAdd, Nat.reduceSub, Nat.reduceMul, Nat.reduceEqDiff, Int.reduceLT, Int.reduceLE, Int.reduceNeg, Int.reduceToNat, Int.reduceAdd, Int.reduceSub, ↓reduceIte, reduceCtorEq]
            exact fin_ret (by rfl) (by simp [subMem, Dk.find])
          · simp (maxSteps := 2000000) (disch := omega) only [go_sem, List.length_map, Int.reduceEq, Int.reduceNe, Nat.reduceBEq, Nat.reduceLT, Nat.reduceLeDiff, Nat.reduceAdd, Nat.reduceSub, Nat.reduceMul, Nat.reduceEqDiff, Int.reduceLT, Int.reduceLE, Int.reduceNeg, Int.reduceToNat, Int.reduceAdd, Int.reduceSub, ↓reduceIte, reduceCtorEq]
            refine awIf2_dec (fun c5 => ?_) (fun c5 => ?_)
            · subst c5
              obtain ⟨l, rs1, e1, hh⟩ : ∃ l rs1 e1, textR b.length (rs, e) = (l, rs1, e1) := ⟨_, _, _, rfl⟩
              have h' : (decide ((textR b.length (rs, e)).1 = b), (textR b.length (rs, e)).2) = (r, rs2, e2) := h
              rw [hh] at h'
              simp only [Prod.mk.injEq] at h'
              obtain ⟨rfl, rfl, rfl⟩ := h'
              simp (maxSteps := 2000000) (disch := omega) only [go_sem, List.length_map, Int.reduceEq, Int.reduceNe, Nat.reduceBEq, Nat.reduceLT, Nat.reduceLeDiff, Nat.reduceAdd, Nat.reduceSub, Nat.reduceMul, Nat.reduceEqDiff, Int.reduceLT, Int.reduceLE, Int.reduceNeg, Int.reduceToNat, Int.reduceAdd, Int.reduceSub, ↓reduceIte, reduceCtorEq]
              refine z_draw [⟨[(0, none)], [], false, [0]⟩, ⟨[(3, none)], [], false, [0]⟩, ⟨[(52, some 1)], [1], false, [0]⟩, ⟨[(53, some 2)], [1, 2], false, [0]⟩, ⟨[(51, some 0), (54, some 3)], [0, 1, 2, 3], true, []⟩, ⟨[(3, none)], [], false, [0, 1]⟩, ⟨[(56, some 5)], [5], false, [0, 1]⟩, ⟨[(55, some 4), (57, some 6)], [0, 1, 2, 3, 4, 5, 6], true, []⟩, ⟨[(58, some 7)], [0, 1, 2, 3, 4, 5, 6, 7], false, [2]⟩] [4, 7] [(0, none), (1, none), (3, none), (4, some 8), (6, none), (7, none), (15, none), (23, none), (30, none), (39, none), (49, none)] [(3, none, 4), (56, some 5, 4), (57, some 6, 4), (0, none, 4), (0, none, 7), (1, none, 4), (1, none, 7), (3, none, 7), (6, none, 4), (6, none, 7), (7, none, 4), (7, none, 7), (15, none, 4), (15, none, 7), (23, none, 4), (23, none, 7), (30, none, 4), (30, none, 7), (39, none, 4), (39, none, 7), (49, none, 4), (49, none, 7)] mixed (by kernel_rfl) (by kernel_rfl) (by kernel_rfl) ?_
              simp (maxSteps := 2000000) (disch := omega) only [go_sem, List.length_map, Int.reduceEq, Int.reduceNe, Nat.reduceBEq, Nat.reduceLT, Nat.reduceLeDiff, Nat.reduceAdd, Nat.reduceSub, Nat.reduceMul, Nat.reduceEqDiff, Int.reduceLT, Int.reduceLE, Int.reduceNeg, Int.reduceToNat, Int.reduceAdd, Int.reduceSub, ↓reduceIte, reduceCtorEq]
              refine evCall_con [] [] (Reader_Text rs e b.length (by omega) (by omega) hh) ?_ ?_ ?_ ?_ ?_; (focus kernel_rfl); (focus exact (.inl rfl)); (focus (simp [go_sem]; done)); (focus (simp [go_sem]; done)); rintro _ rfl; simp (maxSteps := 2000000) (disch := omega) only [go_sem, List.length_map, Int.reduceEq, Int.reduceNe, Nat.reduceBEq, Nat.reduceLT, Nat.reduceLeDiff, Nat.reduceAdd, Nat.reduceSub, Nat.reduceMul, Nat.reduceEqDiff, Int.reduceLT, Int.reduceLE, Int.reduceNeg, Int.reduceToNat, Int.reduceAdd, Int.reduceSub, ↓reduceIte, reduceCtorEq]
              refine evCall_con [] [] (same l b) ?_ ?_ ?_ ?_ ?_; (focus kernel_rfl); (focus exact (.inl rfl)); (focus (simp [go_sem]; done)); (focus (simp [go_sem]; done)); rintro _ rfl; simp (maxSteps := 2000000) (disch := omega) only [go_sem, List.length_map, Int.reduceEq, Int.reduceNe, Nat.reduceBEq, Nat.reduceLT, Nat.reduceLeDiff, Nat.reduceAdd, Nat.reduceSub, Nat.reduceMul, Nat.reduceEqDiff, Int.reduceLT, Int.reduceLE, Int.reduceNeg, Int.reduceToNat, Int.reduceAdd, Int.reduceSub, ↓reduceIte, reduceCtorEq]
              exact fin_ret (by rfl) (by simp [subMem, Dk.find])
            · unfold backR at h
              dsimp only at h
              simp only [if_neg c0, if_neg c1, if_neg c2, if_neg c3, if_neg c4, if_neg c5, Prod.mk.injEq] at h
              obtain ⟨rfl, rfl, rfl⟩ := h
              simp (maxSteps := 2000000) (disch := omega) only [go_sem, List.length_map, Int.reduceEq, Int.reduceNe, Nat.reduceBEq, Nat.reduceLT, Nat.reduceLeDiff, Nat.reduceAdd, Nat.reduceSub, Nat.reduceMul, Nat.reduceEqDiff, Int.reduceLT, Int.reduceLE, Int.reduceNeg, Int.reduceToNat, Int.reduceAdd, Int.reduceSub, ↓reduceIte, reduceCtorEq]
              exact fin_ret (by rfl) (by simp [subMem, Dk.find])
end Go.Proofs.Ytjmkgpkgagohoaa
