/-
  CodecR: contracts of functions of the program, and what follows from them.
-/
import Derived.Test.YtjmkgpkgagohoaaTyCodec
import Derived.Test.YtjmkgpkgagohoaaCodecQ
set_option linter.all false
namespace Go.Proofs.Ytjmkgpkgagohoaa
open Go Go.Dk
set_option linter.unusedSimpArgs false
set_option linter.unusedVariables false
set_option maxRecDepth 10000
set_option maxHeartbeats 4000000
set_option pp.deepTerms true
set_option pp.maxSteps 1000000

def halfC (i : Nat) : BitVec 32 := stepsC 4 (BitVec.ofNat 32 i)
def tabL (i : Nat) : List AV := (List.range 16).map fun k => if k < i then .v (.int .u32 (((halfC k).toNat : Nat) : Int)) else .v (.int .u32 0)
theorem tabL_set (i : Nat) (h : i < 16) : (tabL i).set i (.v (.int .u32 (((halfC i).toNat : Nat) : Int))) = tabL (i + 1) := by
  apply List.ext_getElem?
  intro k
  simp only [tabL, List.getElem?_set, List.length_map, List.length_range, List.getElem?_map]
  by_cases hk : k < 16
  · rw [List.getElem?_range hk]
    by_cases e : i = k
    · subst e; simp [h]
    · have : (k < i) ↔ (k < i + 1) := by omega
      simp [e, this]
  · rw [List.getElem?_eq_none (by simpa using hk)]
    simp [show ¬ i = k from by omega]

theorem stepV (d : BitVec 32) : BitVec.ofInt 32 ((d.toNat : Int).fdiv (2 ^ min 1 32)) ^^^ BitVec.ofInt 32 (IntKind.u32.wrap (3988292384 * (((BitVec.ofInt 32 (d.toNat : Int) &&& BitVec.ofInt 32 1).toNat : Nat) : Int))) = stepC d := by
  have h1 : (d.toNat : Int).fdiv (2 ^ min 1 32) = (((d >>> 1).toNat : Nat) : Int) := by
    rw [BitVec.toNat_ushiftRight, Nat.shiftRight_eq_div_pow]
    exact fdivN d.toNat 1
  have h2 : (BitVec.ofInt 32 (d.toNat : Int) &&& BitVec.ofInt 32 1).toNat = d.toNat % 2 := by
    rw [ofI, BitVec.toNat_and, show (BitVec.ofInt 32 1).toNat = 1 from rfl, Nat.and_one_is_mod]
  rw [h1, ofI, h2]
  unfold stepC
  split
  · rename_i h; rw [h]; rfl
  · rename_i h; rw [show d.toNat % 2 = 0 from by omega]
    show _ ^^^ 0#32 = _
    rw [BitVec.xor_zero]

theorem and_val (d : BitVec 32) : (d &&& BitVec.ofInt 32 15).toNat = d.toNat % 16 := by
  rw [BitVec.toNat_and, show (BitVec.ofInt 32 15).toNat = 2 ^ 4 - 1 from rfl, Nat.and_two_pow_sub_one_eq_mod]
theorem mix_val (d : BitVec 32) : BitVec.ofInt 32 (((halfC (d.toNat % 16)).toNat : Nat) : Int) ^^^ BitVec.ofInt 32 ((d.toNat : Int).fdiv (2 ^ min 4 32)) = stepsC 4 d := by
  have h1 : (d.toNat : Int).fdiv (2 ^ min 4 32) = (((d >>> 4).toNat : Nat) : Int) := by
    rw [BitVec.toNat_ushiftRight, Nat.shiftRight_eq_div_pow]
    exact fdivN d.toNat 4
  have h2 : BitVec.ofNat 32 (d.toNat % 16) = d &&& 15#32 := by
    apply BitVec.eq_of_toNat_eq
    rw [BitVec.toNat_and, show (15#32).toNat = 2 ^ 4 - 1 from rfl, Nat.and_two_pow_sub_one_eq_mod, BitVec.toNat_ofNat]
    omega
  rw [h1, ofI, ofI, halfC, h2, ← half_step]
theorem tab_get (m : Nat) (h : m < 16) : (tabL 16)[m]? = some (.v (.int .u32 (((halfC m).toNat : Nat) : Int))) := by
  rw [tabL, List.getElem?_map, List.getElem?_range h]; simp [h]

theorem Sum (b : List UInt8) (hl : b.length < 1000000000000) :
    (Con.mk [.imm false 1 (rowsB b)] [] [] (.v (.int .u32 ((sumC b).toNat : Nat))) []).ok Try.prog 37 := by
  refine ⟨?_, by simp [Con.wf, ids, inA, inM, inB, inL_nil, inL_cons, inL_append, inL_cellsB, inL_dat]⟩
  refine con_of_ev true [0, 2, 3, 4, 5, 6, 8, 9, 10, 14, 15, 27, 28, 29, 30] 54 Try.func37 (code := _) rfl rfl Try.ntmps37 (by simp) [.tmp 2] (by rw [Try.results37]) ?_
  simp (maxSteps := 2000000) (disch := omega) only [go_sem, List.length_map, Int.reduceEq, Int.reduceNe, Nat.reduceBEq, Nat.reduceLT, Nat.reduceLeDiff, Nat.reduceAdd, Nat.reduceSub, Nat.reduceMul, Nat.reduceEqDiff, Int.reduceLT, Int.reduceLE, Int.reduceNeg, Int.reduceToNat, Int.reduceAdd, Int.reduceSub, ↓reduceIte, reduceCtorEq]
  refine ev_loop (α := Nat) (fun i => ⟨[(0, .imm false 1 (rowsB b)), (3, .ptr 3 0), (9, .v (.int .i64 (i : Int)))], [(3, .cells (tabL i))]⟩)
    (fun i => i ≤ 16) (fun i => 16 - i) 0 (Nat.zero_le _) (weak_sub (by simp [envSub, Dk.look]) (by simp [subMem, Dk.find]; rfl)) ?_
  intro i hi
  by_cases h : i < 16
  · have h' : (i : Int) < 16 := by omega
    simp (maxSteps := 2000000) (disch := omega) only [go_sem, List.length_map, Int.reduceEq, Int.reduceNe, Nat.reduceBEq, Nat.reduceLT, Nat.reduceLeDiff, Nat.reduceAdd, Nat.reduceSub, Nat.reduceMul, Nat.reduceEqDiff, Int.reduceLT, Int.reduceLE, Int.reduceNeg, Int.reduceToNat, Int.reduceAdd, Int.reduceSub, ↓reduceIte, reduceCtorEq, h']
    refine ev_loop (α := Nat) (fun k => ⟨[(0, .imm false 1 (rowsB b)), (3, .ptr 3 0), (9, .v (.int .i64 (i : Int))), (4, .v (.int .i64 (i : Int))), (5, .v (.int .u32 (((stepsC k (BitVec.ofNat 32 i)).toNat : Nat) : Int))), (14, .v (.int .i64 (k : Int)))], [(3, .cells (tabL i))]⟩)
      (fun k => k ≤ 4) (fun k => 4 - k) 0 (Nat.zero_le _) (weak_sub (by simp [envSub, Dk.look, stepsC]; try omega) (by simp [subMem, Dk.find])) ?_
    intro k hk
    by_cases h2 : k < 4
    · have h2' : (k : Int) < 4 := by omega
      simp (maxSteps := 2000000) (disch := omega) only [go_sem, List.length_map, Int.reduceEq, Int.reduceNe, Nat.reduceBEq, Nat.reduceLT, Nat.reduceLeDiff, Nat.reduceAdd, Nat.reduceSub, Nat.reduceMul, Nat.reduceEqDiff, Int.reduceLT, Int.reduceLE, Int.reduceNeg, Int.reduceToNat, Int.reduceAdd, Int.reduceSub, ↓reduceIte, reduceCtorEq, h2']
      refine ⟨k + 1, h2, by omega, ?_⟩
      erw [stepV]
      exact weak_sub (by simp [envSub, Dk.look, stepsC]) (by simp [subMem, Dk.find])
    · obtain rfl : k = 4 := by omega
      have hlen : (tabL i).length = 16 := by simp [tabL]
      simp (maxSteps := 2000000) (disch := omega) only [go_sem, List.length_map, Int.reduceEq, Int.reduceNe, Nat.reduceBEq, Nat.reduceLT, Nat.reduceLeDiff, Nat.reduceAdd, Nat.reduceSub, Nat.reduceMul, Nat.reduceEqDiff, Int.reduceLT, Int.reduceLE, Int.reduceNeg, Int.reduceToNat, Int.reduceAdd, Int.reduceSub, ↓reduceIte, reduceCtorEq, hlen]
      refine ⟨i + 1, h, by omega, ?_⟩
      have e := tabL_set i h
      simp only [halfC] at e
      rw [e]
      exact weak_sub (by simp [envSub, Dk.look]) (by simp [subMem, Dk.find])
  · obtain rfl : i = 16 := by omega
    simp (maxSteps := 2000000) (disch := omega) only [go_sem, List.length_map, Int.reduceEq, Int.reduceNe, Nat.reduceBEq, Nat.reduceLT, Nat.reduceLeDiff, Nat.reduceAdd, Nat.reduceSub, Nat.reduceMul, Nat.reduceEqDiff, Int.reduceLT, Int.reduceLE, Int.reduceNeg, Int.reduceToNat, Int.reduceAdd, Int.reduceSub, ↓reduceIte, reduceCtorEq]
    refine ev_loop (α := Nat) (fun i => ⟨[(3, .ptr 3 0), (27, .imm false 1 (rowsB b)), (28, .v (.int .i64 b.length)), (6, .v (.int .u32 (((crcC (b.take i)).toNat : Nat) : Int))), (29, .v (.int .i64 (i : Int)))], [(3, .cells (tabL 16))]⟩)
      (fun i => i ≤ b.length) (fun i => b.length - i) 0 (Nat.zero_le _) (weak_sub (by simp [envSub, Dk.look, crcC]) (by simp [subMem, Dk.find])) ?_
    intro i hi
    by_cases h : i < b.length
    · have h' : (i : Int) < b.length := by omega
      have hg : b[i]? = some b[i] := List.getElem?_eq_getElem h
      have hc := crc_take b i _ hg
      have hbt := b[i].toNat_lt
      have hlen : (tabL 16).length = 16 := by simp [tabL]
      simp (maxSteps := 2000000) (disch := omega) only [go_sem, List.length_map, Int.reduceEq, Int.reduceNe, Nat.reduceBEq, Nat.reduceLT, Nat.reduceLeDiff, Nat.reduceAdd, Nat.reduceSub, Nat.reduceMul, Nat.reduceEqDiff, Int.reduceLT, Int.reduceLE, Int.reduceNeg, Int.reduceToNat, Int.reduceAdd, Int.reduceSub, ↓reduceIte, reduceCtorEq, h', hg]
      generalize crcC (b.take i) = c at hc ⊢
      rw [byte_val b[i]]
      erw [ofI, ofI, ofI]
      have hb8 : byteC c b[i] = stepsC 4 (stepsC 4 (c ^^^ inC b[i])) := (stepsC_add 4 4 _).symm
      rw [hb8] at hc
      generalize hc1 : c ^^^ inC b[i] = c1 at hc ⊢
      erw [and_val]
      simp (maxSteps := 2000000) (disch := omega) only [go_sem, List.length_map, Int.reduceEq, Int.reduceNe, Nat.reduceBEq, Nat.reduceLT, Nat.reduceLeDiff, Nat.reduceAdd, Nat.reduceSub, Nat.reduceMul, Nat.reduceEqDiff, Int.reduceLT, Int.reduceLE, Int.reduceNeg, Int.reduceToNat, Int.reduceAdd, Int.reduceSub, ↓reduceIte, reduceCtorEq, tab_get, List.head?_drop]
      erw [mix_val, ofI, and_val]
      simp (maxSteps := 2000000) (disch := omega) only [go_sem, List.length_map, Int.reduceEq, Int.reduceNe, Nat.reduceBEq, Nat.reduceLT, Nat.reduceLeDiff, Nat.reduceAdd, Nat.reduceSub, Nat.reduceMul, Nat.reduceEqDiff, Int.reduceLT, Int.reduceLE, Int.reduceNeg, Int.reduceToNat, Int.reduceAdd, Int.reduceSub, ↓reduceIte, reduceCtorEq, tab_get, List.head?_drop]
      erw [mix_val]
      refine ⟨i + 1, h, by omega, ?_⟩
      rw [hc, ← hc1]
      exact weak_sub (by simp [envSub, Dk.look, -BitVec.toNat_xor]; try rfl) (by simp [subMem, Dk.find])
    · obtain rfl : i = b.length := by omega
      have h' : ¬ (b.length : Int) < b.length := by omega
      simp (maxSteps := 2000000) (disch := omega) only [go_sem, List.length_map, Int.reduceEq, Int.reduceNe, Nat.reduceBEq, Nat.reduceLT, Nat.reduceLeDiff, Nat.reduceAdd, Nat.reduceSub, Nat.reduceMul, Nat.reduceEqDiff, Int.reduceLT, Int.reduceLE, Int.reduceNeg, Int.reduceToNat, Int.reduceAdd, Int.reduceSub, ↓reduceIte, reduceCtorEq, h']
      rw [List.take_length, show (if IntKind.u32.signed = true then (-1 : Int) else IntKind.u32.max) = 4294967295 from rfl]
      have e : BitVec.ofInt 32 4294967295 ^^^ crcC b = sumC b := by rw [sumC, BitVec.xor_comm]; rfl
      erw [ofI, e]
      exact fin_ret (by rfl) (by simp [subMem, Dk.find])
end Go.Proofs.Ytjmkgpkgagohoaa
