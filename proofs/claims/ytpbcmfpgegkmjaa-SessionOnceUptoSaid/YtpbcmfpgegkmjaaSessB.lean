/-
  SessB: contracts of functions of the program, and what follows from them.
-/
import Derived.Test.YtpbcmfpgegkmjaaTySess
import Derived.Test.YtpbcmfpgegkmjaaSessA
set_option linter.all false
namespace Go.Proofs.Ytpbcmfpgegkmjaa
open Go Go.Dk
set_option linter.unusedSimpArgs false
set_option linter.unusedVariables false
set_option maxRecDepth 10000
set_option maxHeartbeats 4000000
set_option pp.deepTerms true
set_option pp.maxSteps 1000000

theorem alive : (Con.mk [] [] [] (.v (.bool true)) []).ok Try.prog 8 := by
  refine ⟨?_, by simp [Con.wf, ids, inA, inM, inB, inL_nil, inL_cons, inL_append, inL_cellsB, inL_dat]⟩
  have h1 : openF [] 5 = ([(5, (Ans.zero, 0))], 0) := rfl
  have h2 : keepF [(5, (Ans.zero, 0))] 5 2 ⟨0, 7, 0, 0, mkS [], mkS []⟩ = ([(5, (⟨0, 7, 0, 0, mkS [], mkS []⟩, 2))], 0) := rfl
  have h3 : lookF [(5, (⟨0, 7, 0, 0, mkS [], mkS []⟩, 2))] 5 2 = (⟨0, 7, 0, 0, mkS [], mkS []⟩, true, 0) := rfl
  refine con_of_ev true [0, 1, 2, 3, 4, 5, 6, 9] 44 Try.func8 (code := _) rfl rfl Try.ntmps8 (by simp) [.tmp 0] (by rw [Try.results8]) ?_
  simp (maxSteps := 2000000) (disch := omega) only [go_sem, List.length_map, Int.reduceEq, Int.reduceNe, Nat.reduceBEq, Nat.reduceLT, Nat.reduceLeDiff, Nat.reduceAdd, Nat.reduceSub, Nat.reduceMul, Nat.reduceEqDiff, Int.reduceLT, Int.reduceLE, Int.reduceNeg, Int.reduceToNat, Int.reduceAdd, Int.reduceSub, ↓reduceIte, reduceCtorEq]
  refine awCall_con [(3, 100), (1, 101)] [] (New) ?_ ?_ ?_ ?_ ?_; (focus kernel_rfl); (focus exact (.inl rfl)); (focus (simp [go_sem]; done)); (focus (simp [go_sem]; done)); rintro _ rfl; simp (maxSteps := 2000000) (disch := omega) only [go_sem, List.length_map, Int.reduceEq, Int.reduceNe, Nat.reduceBEq, Nat.reduceLT, Nat.reduceLeDiff, Nat.reduceAdd, Nat.reduceSub, Nat.reduceMul, Nat.reduceEqDiff, Int.reduceLT, Int.reduceLE, Int.reduceNeg, Int.reduceToNat, Int.reduceAdd, Int.reduceSub, ↓reduceIte, reduceCtorEq]
  refine awCall_con [(1000, 100), (1001, 101)] [] (Open [] 5 (by omega) (by simp) h1) ?_ ?_ ?_ ?_ ?_; (focus kernel_rfl); (focus exact (.inl rfl)); (focus (simp [go_sem]; done)); (focus (simp [go_sem]; done)); rintro _ rfl; simp (maxSteps := 2000000) (disch := omega) only [go_sem, List.length_map, Int.reduceEq, Int.reduceNe, Nat.reduceBEq, Nat.reduceLT, Nat.reduceLeDiff, Nat.reduceAdd, Nat.reduceSub, Nat.reduceMul, Nat.reduceEqDiff, Int.reduceLT, Int.reduceLE, Int.reduceNeg, Int.reduceToNat, Int.reduceAdd, Int.reduceSub, ↓reduceIte, reduceCtorEq]
  refine awCall_con [(1000, 100), (1001, 101)] [] (Keep _ 5 2 _ (by omega) (by omega) (by simp) h2) ?_ ?_ ?_ ?_ ?_; (focus kernel_rfl); (focus exact (.inl rfl)); (focus (simp [go_sem]; done)); (focus (simp [go_sem]; done)); rintro _ rfl; simp (maxSteps := 2000000) (disch := omega) only [go_sem, List.length_map, Int.reduceEq, Int.reduceNe, Nat.reduceBEq, Nat.reduceLT, Nat.reduceLeDiff, Nat.reduceAdd, Nat.reduceSub, Nat.reduceMul, Nat.reduceEqDiff, Int.reduceLT, Int.reduceLE, Int.reduceNeg, Int.reduceToNat, Int.reduceAdd, Int.reduceSub, ↓reduceIte, reduceCtorEq]
  refine awCall_con [(1000, 100), (1001, 101)] [] (Look _ 5 2 (by omega) (by omega) (by simp) h3) ?_ ?_ ?_ ?_ ?_; (focus kernel_rfl); (focus exact (.inl rfl)); (focus (simp [go_sem]; done)); (focus (simp [go_sem]; done)); rintro _ rfl; simp (maxSteps := 2000000) (disch := omega) only [go_sem, List.length_map, Int.reduceEq, Int.reduceNe, Nat.reduceBEq, Nat.reduceLT, Nat.reduceLeDiff, Nat.reduceAdd, Nat.reduceSub, Nat.reduceMul, Nat.reduceEqDiff, Int.reduceLT, Int.reduceLE, Int.reduceNeg, Int.reduceToNat, Int.reduceAdd, Int.reduceSub, ↓reduceIte, reduceCtorEq]
  refine awCall_con [(1000, 100), (1001, 101)] [] (Len [(5, (⟨0, 7, 0, 0, mkS [], mkS []⟩, 2))]) ?_ ?_ ?_ ?_ ?_; (focus kernel_rfl); (focus exact (.inl rfl)); (focus (simp [go_sem]; done)); (focus (simp [go_sem]; done)); rintro _ rfl; simp (maxSteps := 2000000) (disch := omega) only [go_sem, List.length_map, Int.reduceEq, Int.reduceNe, Nat.reduceBEq, Nat.reduceLT, Nat.reduceLeDiff, Nat.reduceAdd, Nat.reduceSub, Nat.reduceMul, Nat.reduceEqDiff, Int.reduceLT, Int.reduceLE, Int.reduceNeg, Int.reduceToNat, Int.reduceAdd, Int.reduceSub, ↓reduceIte, reduceCtorEq]
  exact fin_ret (by rfl) (by simp [subMem])

structure Cmd where
  kind : Int
  id : Nat
  seq : Nat
  a : Ans
def Cmd.ok (o : Cmd) : Prop := (-9223372036854775808 ≤ o.kind ∧ o.kind ≤ 9223372036854775807) ∧ o.id < 18446744073709551616 ∧ o.seq < 18446744073709551616
def Cmd.dat (o : Cmd) : List Dat := [.v (.int .i64 o.kind), .v (.int .u64 o.id), .v (.int .u64 o.seq), .v (.int .i64 o.a.code), .v (.int .u64 o.a.id), .v (.int .u64 o.a.token), .v (.int .u64 o.a.until_), .v (.string o.a.target), .v (.string o.a.command)]
def stepT (l : Tbl) (o : Cmd) : Tbl := if o.kind = 0 then (openF l o.id).1 else if o.kind = 2 then (keepF l o.id o.seq o.a).1 else l
def runT (s : List Cmd) : Tbl := s.foldl stepT []
theorem runT_take (s : List Cmd) (i : Nat) (o : Cmd) (h : s[i]? = some o) : runT (s.take (i + 1)) = stepT (runT (s.take i)) o := by
  rw [List.take_add_one, h]; simp [runT]
theorem stepT_len (l : Tbl) (o : Cmd) : (stepT l o).length ≤ l.length + 1 := by
  unfold stepT openF keepF
  have h1 := updT_len o.id (Ans.zero, 0) l
  have h2 := updT_len o.id (o.a, o.seq) l
  repeat' split
  all_goals first | exact h1 | exact h2 | exact Nat.le_succ _
theorem runT_len (s : List Cmd) : ∀ i, (runT (s.take i)).length ≤ i
  | 0 => by simp [runT]
  | i + 1 => by
    cases h : s[i]? with
    | none =>
      have := runT_len s i
      rw [List.take_of_length_le (by have := List.getElem?_eq_none_iff.1 h; omega)] at this ⊢
      omega
    | some o =>
      rw [runT_take s i o h]
      exact Nat.le_trans (stepT_len _ _) (Nat.succ_le_succ (runT_len s i))

theorem SessionOnce (s : List Cmd) (id seq : Nat) (hs : ∀ o ∈ s, o.ok) (hn : s.length < 100000000) (hid : id < 18446744073709551616) (hsq : seq < 18446744073709551616) :
    (Con.mk [.imm false 9 (s.map Cmd.dat), .v (.int .u64 id), .v (.int .u64 seq)] [] [] (.v (.bool true)) []).ok Try.prog 3 := by
  refine ⟨?_, by simp [Con.wf, ids, inA, inM, inB, inL_nil, inL_cons, inL_append, inL_cellsB, inL_dat]⟩
  refine con_of_ev true [0, 1, 2, 6, 7, 9, 10, 11, 12, 13, 14, 17, 18, 21, 28, 29, 30, 31, 32, 36, 37, 43, 60, 101, 103] 124 Try.func3 (code := _) rfl rfl Try.ntmps3 (by simp) [.tmp 6] (by rw [Try.results3]) ?_
  simp (maxSteps := 2000000) (disch := omega) only [go_sem, List.length_map, Int.reduceEq, Int.reduceNe, Nat.reduceBEq, Nat.reduceLT, Nat.reduceLeDiff, Nat.reduceAdd, Nat.reduceSub, Nat.reduceMul, Nat.reduceEqDiff, Int.reduceLT, Int.reduceLE, Int.reduceNeg, Int.reduceToNat, Int.reduceAdd, Int.reduceSub, ↓reduceIte, reduceCtorEq]
  refine awCall_con [(3, 100), (1, 101)] [] (New) ?_ ?_ ?_ ?_ ?_; (focus kernel_rfl); (focus exact (.inl rfl)); (focus (simp [go_sem]; done)); (focus (simp [go_sem]; done)); rintro _ rfl; simp (maxSteps := 2000000) (disch := omega) only [go_sem, List.length_map, Int.reduceEq, Int.reduceNe, Nat.reduceBEq, Nat.reduceLT, Nat.reduceLeDiff, Nat.reduceAdd, Nat.reduceSub, Nat.reduceMul, Nat.reduceEqDiff, Int.reduceLT, Int.reduceLE, Int.reduceNeg, Int.reduceToNat, Int.reduceAdd, Int.reduceSub, ↓reduceIte, reduceCtorEq]
  refine awCall_con [] [] (alive) ?_ ?_ ?_ ?_ ?_; (focus kernel_rfl); (focus exact (.inl rfl)); (focus (simp [go_sem]; done)); (focus (simp [go_sem]; done)); rintro _ rfl; simp (maxSteps := 2000000) (disch := omega) only [go_sem, List.length_map, Int.reduceEq, Int.reduceNe, Nat.reduceBEq, Nat.reduceLT, Nat.reduceLeDiff, Nat.reduceAdd, Nat.reduceSub, Nat.reduceMul, Nat.reduceEqDiff, Int.reduceLT, Int.reduceLE, Int.reduceNeg, Int.reduceToNat, Int.reduceAdd, Int.reduceSub, ↓reduceIte, reduceCtorEq]
  refine ev_loop (α := Nat) (fun i => ⟨[(1, .v (.int .u64 id)), (2, .v (.int .u64 seq)), (7, .ptr 100 0), (29, .imm false 9 (s.map Cmd.dat)), (30, .v (.int .i64 s.length)), (31, .v (.int .i64 (i : Int)))], [(100, .cells [.mp 101]), (101, .map (tblA (runT (s.take i))))]⟩)
    (fun i => i ≤ s.length) (fun i => s.length - i) 0 (Nat.zero_le _) (weak_sub (by simp [envSub, Dk.look]) (by simp [subMem, Dk.find, runT, tblA])) ?_
  intro i hi
  have hrl := runT_len s i
  by_cases h : i < s.length
  · have h' : (i : Int) < s.length := by omega
    obtain ⟨o, hg⟩ : ∃ o, s[i]? = some o := ⟨_, List.getElem?_eq_getElem h⟩
    have hg' : (s.map Cmd.dat)[i]? = some o.dat := by rw [List.getElem?_map, hg]; rfl
    obtain ⟨⟨ho1, ho2⟩, ho3, ho4⟩ := hs o (List.mem_of_getElem? hg)
    have hrt := runT_take s i o hg
    generalize runT (s.take i) = l at *
    have fin : ∀ l2, stepT l o = l2 → runT (s.take (i + 1)) = l2 := fun l2 h => by rw [hrt, h]
    by_cases k0 : o.kind = 0
    · have h0 := fin (openF l o.id).1 (by simp [stepT, k0])
      obtain ⟨l2, e2, hop⟩ : ∃ l2 e2, openF l o.id = (l2, e2) := ⟨_, _, rfl⟩
      rw [hop] at h0
      simp (maxSteps := 2000000) (disch := omega) only [go_sem, List.length_map, Int.reduceEq, Int.reduceNe, Nat.reduceBEq, Nat.reduceLT, Nat.reduceLeDiff, Nat.reduceAdd, Nat.reduceSub, Nat.reduceMul, Nat.reduceEqDiff, Int.reduceLT, Int.reduceLE, Int.reduceNeg, Int.reduceToNat, Int.reduceAdd, Int.reduceSub, ↓reduceIte, reduceCtorEq, h', hg', Cmd.dat, k0]
      refine awCall_con [(1000, 100), (1001, 101)] [] (Open l o.id ho3 (by omega) hop) ?_ ?_ ?_ ?_ ?_; (focus kernel_rfl); (focus exact (.inl rfl)); (focus (simp [go_sem]; done)); (focus (simp [go_sem]; done)); rintro _ rfl; simp (maxSteps := 2000000) (disch := omega) only [go_sem, List.length_map, Int.reduceEq, Int.reduceNe, Nat.reduceBEq, Nat.reduceLT, Nat.reduceLeDiff, Nat.reduceAdd, Nat.reduceSub, Nat.reduceMul, Nat.reduceEqDiff, Int.reduceLT, Int.reduceLE, Int.reduceNeg, Int.reduceToNat, Int.reduceAdd, Int.reduceSub, ↓reduceIte, reduceCtorEq]
      refine ⟨i + 1, h, by omega, ?_⟩
      rw [h0]
      exact weak_sub (by simp [envSub, Dk.look]) (by simp [subMem, Dk.find])
    · by_cases k2 : o.kind = 2
      · have h0 := fin (keepF l o.id o.seq o.a).1 (by simp [stepT, k2])
        obtain ⟨l2, e2, hop⟩ : ∃ l2 e2, keepF l o.id o.seq o.a = (l2, e2) := ⟨_, _, rfl⟩
        rw [hop] at h0
        simp (maxSteps := 2000000) (disch := omega) only [go_sem, List.length_map, Int.reduceEq, Int.reduceNe, Nat.reduceBEq, Nat.reduceLT, Nat.reduceLeDiff, Nat.reduceAdd, Nat.reduceSub, Nat.reduceMul, Nat.reduceEqDiff, Int.reduceLT, Int.reduceLE, Int.reduceNeg, Int.reduceToNat, Int.reduceAdd, Int.reduceSub, ↓reduceIte, reduceCtorEq, h', hg', Cmd.dat, k2]
        refine awCall_con [(1000, 100), (1001, 101)] [] (Keep l o.id o.seq o.a ho3 ho4 (by omega) hop) ?_ ?_ ?_ ?_ ?_; (focus kernel_rfl); (focus exact (.inl rfl)); (focus (simp [go_sem]; done)); (focus (simp [go_sem]; done)); rintro _ rfl; simp (maxSteps := 2000000) (disch := omega) only [go_sem, List.length_map, Int.reduceEq, Int.reduceNe, Nat.reduceBEq, Nat.reduceLT, Nat.reduceLeDiff, Nat.reduceAdd, Nat.reduceSub, Nat.reduceMul, Nat.reduceEqDiff, Int.reduceLT, Int.reduceLE, Int.reduceNeg, Int.reduceToNat, Int.reduceAdd, Int.reduceSub, ↓reduceIte, reduceCtorEq]
        refine ⟨i + 1, h, by omega, ?_⟩
        rw [h0]
        exact weak_sub (by simp [envSub, Dk.look]) (by simp [subMem, Dk.find])
      · have h0 := fin l (by simp [stepT, k0, k2])
        simp (maxSteps := 2000000) (disch := omega) only [go_sem, List.length_map, Int.reduceEq, Int.reduceNe, Nat.reduceBEq, Nat.reduceLT, Nat.reduceLeDiff, Nat.reduceAdd, Nat.reduceSub, Nat.reduceMul, Nat.reduceEqDiff, Int.reduceLT, Int.reduceLE, Int.reduceNeg, Int.reduceToNat, Int.reduceAdd, Int.reduceSub, ↓reduceIte, reduceCtorEq, h', hg', Cmd.dat, k0, k2, decide_eq_false k0, decide_eq_false k2]
        refine ⟨i + 1, h, by omega, ?_⟩
        rw [h0]
        exact weak_sub (by simp [envSub, Dk.look]) (by simp [subMem, Dk.find])
  · obtain rfl : i = s.length := by omega
    have h' : ¬ (s.length : Int) < s.length := by omega
    generalize runT (s.take s.length) = l at *
    obtain ⟨l2, e2, hop⟩ : ∃ l2 e2, keepF l id seq ⟨0, 99, 0, 0, mkS [], mkS []⟩ = (l2, e2) := ⟨_, _, rfl⟩
    by_cases c0 : e2 = 0
    · subst c0
      obtain ⟨rfl, hsp⟩ := keep_ok hop
      have hul := updT_len id (⟨0, 99, 0, 0, mkS [], mkS []⟩, seq) l
      have hk1 := look_upd l id seq seq ⟨0, 99, 0, 0, mkS [], mkS []⟩
      rw [if_neg (by omega), if_pos rfl] at hk1
      have hk2 : keepF (updT id (⟨0, 99, 0, 0, mkS [], mkS []⟩, seq) l) id seq Ans.zero = (updT id (⟨0, 99, 0, 0, mkS [], mkS []⟩, seq) l, 111) := by
        unfold keepF; rw [hk1]; rfl
      have hk3 := look_upd l id seq (seq - 1) ⟨0, 99, 0, 0, mkS [], mkS []⟩
      rw [if_pos (.inl (by omega))] at hk3
      have hk4' := look_upd l id seq (seq + 1) ⟨0, 99, 0, 0, mkS [], mkS []⟩
      rw [if_neg (by omega), if_neg (by omega)] at hk4'
      have hk4 : keepF (updT id (⟨0, 99, 0, 0, mkS [], mkS []⟩, seq) l) id (seq + 1) Ans.zero = (updT id (Ans.zero, seq + 1) (updT id (⟨0, 99, 0, 0, mkS [], mkS []⟩, seq) l), 0) := by
        unfold keepF; rw [hk4']; rfl
      have hk5 := look_upd (updT id (⟨0, 99, 0, 0, mkS [], mkS []⟩, seq) l) id (seq + 1) seq Ans.zero
      rw [if_pos (.inl (by omega))] at hk5
      generalize updT id (⟨0, 99, 0, 0, mkS [], mkS []⟩, seq) l = l3 at *
      have hul2 := updT_len id (Ans.zero, seq + 1) l3
      generalize updT id (Ans.zero, seq + 1) l3 = l4 at *
      have e1 : (seq : Int) - 1 = ((seq - 1 : Nat) : Int) := by omega
      have e2 : (seq : Int) + 1 = ((seq + 1 : Nat) : Int) := by omega
      simp (maxSteps := 2000000) (disch := omega) only [go_sem, List.length_map, Int.reduceEq, Int.reduceNe, Nat.reduceBEq, Nat.reduceLT, Nat.reduceLeDiff, Nat.reduceAdd, Nat.reduceSub, Nat.reduceMul, Nat.reduceEqDiff, Int.reduceLT, Int.reduceLE, Int.reduceNeg, Int.reduceToNat, Int.reduceAdd, Int.reduceSub, ↓reduceIte, reduceCtorEq, h']
      refine awCall_con [(1000, 100), (1001, 101)] [] (Keep l id seq ⟨0, 99, 0, 0, mkS [], mkS []⟩ hid hsq (by omega) hop) ?_ ?_ ?_ ?_ ?_; (focus kernel_rfl); (focus exact (.inl rfl)); (focus (simp [go_sem]; done)); (focus (simp [go_sem]; done)); rintro _ rfl; simp (maxSteps := 2000000) (disch := omega) only [go_sem, List.length_map, Int.reduceEq, Int.reduceNe, Nat.reduceBEq, Nat.reduceLT, Nat.reduceLeDiff, Nat.reduceAdd, Nat.reduceSub, Nat.reduceMul, Nat.reduceEqDiff, Int.reduceLT, Int.reduceLE, Int.reduceNeg, Int.reduceToNat, Int.reduceAdd, Int.reduceSub, ↓reduceIte, reduceCtorEq]
      refine awCall_con [(1000, 100), (1001, 101)] [] (Look l3 id seq hid hsq (by omega) hk1) ?_ ?_ ?_ ?_ ?_; (focus kernel_rfl); (focus exact (.inl rfl)); (focus (simp [go_sem]; done)); (focus (simp [go_sem]; done)); rintro _ rfl; simp (maxSteps := 2000000) (disch := omega) only [go_sem, List.length_map, Int.reduceEq, Int.reduceNe, Nat.reduceBEq, Nat.reduceLT, Nat.reduceLeDiff, Nat.reduceAdd, Nat.reduceSub, Nat.reduceMul, Nat.reduceEqDiff, Int.reduceLT, Int.reduceLE, Int.reduceNeg, Int.reduceToNat, Int.reduceAdd, Int.reduceSub, ↓reduceIte, reduceCtorEq]
      refine awCall_con [(1000, 100), (1001, 101)] [] (Keep l3 id seq Ans.zero hid hsq (by omega) hk2) ?_ ?_ ?_ ?_ ?_; (focus kernel_rfl); (focus exact (.inl rfl)); (focus (simp [go_sem, Ans.zero]; done)); (focus (simp [go_sem, Ans.zero]; done)); rintro _ rfl; simp (maxSteps := 2000000) (disch := omega) only [go_sem, List.length_map, Int.reduceEq, Int.reduceNe, Nat.reduceBEq, Nat.reduceLT, Nat.reduceLeDiff, Nat.reduceAdd, Nat.reduceSub, Nat.reduceMul, Nat.reduceEqDiff, Int.reduceLT, Int.reduceLE, Int.reduceNeg, Int.reduceToNat, Int.reduceAdd, Int.reduceSub, ↓reduceIte, reduceCtorEq]
      rw [e1]
      refine awCall_con [(1000, 100), (1001, 101)] [] (Look l3 id (seq - 1) hid (by omega) (by omega) hk3) ?_ ?_ ?_ ?_ ?_; (focus kernel_rfl); (focus exact (.inl rfl)); (focus (simp [go_sem]; done)); (focus (simp [go_sem]; done)); rintro _ rfl; simp (maxSteps := 2000000) (disch := omega) only [go_sem, List.length_map, Int.reduceEq, Int.reduceNe, Nat.reduceBEq, Nat.reduceLT, Nat.reduceLeDiff, Nat.reduceAdd, Nat.reduceSub, Nat.reduceMul, Nat.reduceEqDiff, Int.reduceLT, Int.reduceLE, Int.reduceNeg, Int.reduceToNat, Int.reduceAdd, Int.reduceSub, ↓reduceIte, reduceCtorEq]
      by_cases g : seq = 18446744073709551615
      · simp (maxSteps := 2000000) (disch := omega) only [go_sem, List.length_map, Int.reduceEq, Int.reduceNe, Nat.reduceBEq, Nat.reduceLT, Nat.reduceLeDiff, Nat.reduceAdd, Nat.reduceSub, Nat.reduceMul, Nat.reduceEqDiff, Int.reduceLT, Int.reduceLE, Int.reduceNeg, Int.reduceToNat, Int.reduceAdd, Int.reduceSub, ↓reduceIte, reduceCtorEq, decide_eq_true (show (seq : Int) = 18446744073709551615 from by omega)]
        exact fin_ret (by rfl) (by simp [subMem])
      · simp (maxSteps := 2000000) (disch := omega) only [go_sem, List.length_map, Int.reduceEq, Int.reduceNe, Nat.reduceBEq, Nat.reduceLT, Nat.reduceLeDiff, Nat.reduceAdd, Nat.reduceSub, Nat.reduceMul, Nat.reduceEqDiff, Int.reduceLT, Int.reduceLE, Int.reduceNeg, Int.reduceToNat, Int.reduceAdd, Int.reduceSub, ↓reduceIte, reduceCtorEq, decide_eq_false (show ¬ (seq : Int) = 18446744073709551615 from by omega)]
        rw [e2]
        refine awCall_con [(1000, 100), (1001, 101)] [] (Keep l3 id (seq + 1) Ans.zero hid (by omega) (by omega) hk4) ?_ ?_ ?_ ?_ ?_; (focus kernel_rfl); (focus exact (.inl rfl)); (focus (simp [go_sem, Ans.zero]; done)); (focus (simp [go_sem, Ans.zero]; done)); rintro _ rfl; simp (maxSteps := 2000000) (disch := omega) only [go_sem, List.length_map, Int.reduceEq, Int.reduceNe, Nat.reduceBEq, Nat.reduceLT, Nat.reduceLeDiff, Nat.reduceAdd, Nat.reduceSub, Nat.reduceMul, Nat.reduceEqDiff, Int.reduceLT, Int.reduceLE, Int.reduceNeg, Int.reduceToNat, Int.reduceAdd, Int.reduceSub, ↓reduceIte, reduceCtorEq]
        refine awCall_con [(1000, 100), (1001, 101)] [] (Look l4 id seq hid hsq (by omega) hk5) ?_ ?_ ?_ ?_ ?_; (focus kernel_rfl); (focus exact (.inl rfl)); (focus (simp [go_sem]; done)); (focus (simp [go_sem]; done)); rintro _ rfl; simp (maxSteps := 2000000) (disch := omega) only [go_sem, List.length_map, Int.reduceEq, Int.reduceNe, Nat.reduceBEq, Nat.reduceLT, Nat.reduceLeDiff, Nat.reduceAdd, Nat.reduceSub, Nat.reduceMul, Nat.reduceEqDiff, Int.reduceLT, Int.reduceLE, Int.reduceNeg, Int.reduceToNat, Int.reduceAdd, Int.reduceSub, ↓reduceIte, reduceCtorEq]
        exact fin_ret (by rfl) (by simp [subMem])
    · simp (maxSteps := 2000000) (disch := omega) only [go_sem, List.length_map, Int.reduceEq, Int.reduceNe, Nat.reduceBEq, Nat.reduceLT, Nat.reduceLeDiff, Nat.reduceAdd, Nat.reduceSub, Nat.reduceMul, Nat.reduceEqDiff, Int.reduceLT, Int.reduceLE, Int.reduceNeg, Int.reduceToNat, Int.reduceAdd, Int.reduceSub, ↓reduceIte, reduceCtorEq, h']
      refine awCall_con [(1000, 100), (1001, 101)] [] (Keep l id seq ⟨0, 99, 0, 0, mkS [], mkS []⟩ hid hsq (by omega) hop) ?_ ?_ ?_ ?_ ?_; (focus kernel_rfl); (focus exact (.inl rfl)); (focus (simp [go_sem]; done)); (focus (simp [go_sem]; done)); rintro _ rfl; simp (maxSteps := 2000000) (disch := omega) only [go_sem, List.length_map, Int.reduceEq, Int.reduceNe, Nat.reduceBEq, Nat.reduceLT, Nat.reduceLeDiff, Nat.reduceAdd, Nat.reduceSub, Nat.reduceMul, Nat.reduceEqDiff, Int.reduceLT, Int.reduceLE, Int.reduceNeg, Int.reduceToNat, Int.reduceAdd, Int.reduceSub, ↓reduceIte, reduceCtorEq]
      simp (maxSteps := 2000000) (disch := omega) only [go_sem, List.length_map, Int.reduceEq, Int.reduceNe, Nat.reduceBEq, Nat.reduceLT, Nat.reduceLeDiff, Nat.reduceAdd, Nat.reduceSub, Nat.reduceMul, Nat.reduceEqDiff, Int.reduceLT, Int.reduceLE, Int.reduceNeg, Int.reduceToNat, Int.reduceAdd, Int.reduceSub, ↓reduceIte, reduceCtorEq, c0, decide_eq_false c0]
      exact fin_ret (by rfl) (by simp [subMem])
end Go.Proofs.Ytpbcmfpgegkmjaa
