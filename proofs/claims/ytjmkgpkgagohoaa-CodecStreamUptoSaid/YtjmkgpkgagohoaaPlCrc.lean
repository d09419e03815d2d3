/-
  Plain: the checksum, bit by bit and by halves of bytes; it tells apart what differs in one byte.
-/
import Derived.Test.YtjmkgpkgagohoaaPlThing
set_option linter.all false
namespace Go.Dk
set_option autoImplicit false

def polyC : BitVec 32 := 3988292384#32
def stepC (c : BitVec 32) : BitVec 32 := if c.toNat % 2 = 1 then (c >>> 1) ^^^ polyC else c >>> 1
def stepsC : Nat → BitVec 32 → BitVec 32
  | 0, c => c
  | n + 1, c => stepC (stepsC n c)
def inC (b : UInt8) : BitVec 32 := BitVec.ofNat 32 b.toNat
def byteC (c : BitVec 32) (b : UInt8) : BitVec 32 := stepsC 8 (c ^^^ inC b)
def crcC (l : List UInt8) : BitVec 32 := l.foldl byteC (BitVec.allOnes 32)
def sumC (l : List UInt8) : BitVec 32 := crcC l ^^^ BitVec.allOnes 32

theorem lsb_iff (c : BitVec 32) : c.toNat % 2 = 1 ↔ c.getLsbD 0 = true := by
  rw [BitVec.getLsbD, Nat.testBit_zero, decide_eq_true_eq]
theorem xor4 (x y p : BitVec 32) : x ^^^ p ^^^ (y ^^^ p) = x ^^^ y := by
  rw [BitVec.xor_comm y p, ← BitVec.xor_assoc, BitVec.xor_assoc x p p, BitVec.xor_self, BitVec.xor_zero]
theorem stepC_xor (a b : BitVec 32) : stepC (a ^^^ b) = stepC a ^^^ stepC b := by
  unfold stepC
  simp only [lsb_iff, BitVec.getLsbD_xor, BitVec.ushiftRight_xor_distrib]
  generalize a.getLsbD 0 = p
  generalize b.getLsbD 0 = q
  generalize a >>> 1 = x
  generalize b >>> 1 = y
  cases p <;> cases q
  · rfl
  · exact BitVec.xor_assoc _ _ _
  · show x ^^^ y ^^^ polyC = x ^^^ polyC ^^^ y
    rw [BitVec.xor_assoc, BitVec.xor_comm y, ← BitVec.xor_assoc]
  · exact (xor4 x y polyC).symm
theorem stepsC_xor : ∀ (n : Nat) (a b : BitVec 32), stepsC n (a ^^^ b) = stepsC n a ^^^ stepsC n b
  | 0, _, _ => rfl
  | n + 1, a, b => by rw [stepsC, stepsC_xor n, stepC_xor]; rfl
theorem stepC_zero (d : BitVec 32) (h : stepC d = 0#32) : d = 0#32 := by
  unfold stepC at h
  split at h
  · have h1 : (d >>> 1 ^^^ polyC).getLsbD 31 = (0#32).getLsbD 31 := by rw [h]
    rw [BitVec.getLsbD_xor, BitVec.getLsbD_ushiftRight, BitVec.getLsbD_of_ge d (1 + 31) (by decide)] at h1
    exact absurd h1 (by decide)
  · rename_i h0
    have h1 : (d >>> 1).toNat = 0 := by rw [h]; rfl
    rw [BitVec.toNat_ushiftRight, Nat.shiftRight_eq_div_pow] at h1
    apply BitVec.eq_of_toNat_eq
    show d.toNat = 0
    omega
theorem stepC_inj {a b : BitVec 32} (h : stepC a = stepC b) : a = b := by
  have h1 : stepC (a ^^^ b) = 0#32 := by rw [stepC_xor, h, BitVec.xor_self]
  have h2 := stepC_zero _ h1
  exact BitVec.xor_eq_zero_iff.1 h2
theorem stepsC_inj : ∀ (n : Nat) {a b : BitVec 32}, stepsC n a = stepsC n b → a = b
  | 0, _, _, h => h
  | n + 1, _, _, h => stepsC_inj n (stepC_inj h)
theorem stepsC_add : ∀ (n m : Nat) (c : BitVec 32), stepsC n (stepsC m c) = stepsC (n + m) c
  | 0, m, c => by rw [Nat.zero_add]; rfl
  | n + 1, m, c => by rw [show n + 1 + m = (n + m) + 1 by omega]; simp only [stepsC]; rw [stepsC_add n m c]
theorem stepC_even (d : BitVec 32) (m : Nat) (h : d.toNat = 2 * m) : (stepC d).toNat = m := by
  unfold stepC
  rw [if_neg (by omega), BitVec.toNat_ushiftRight, Nat.shiftRight_eq_div_pow]
  omega
theorem stepsC_four (d : BitVec 32) (m : Nat) (h : d.toNat = 16 * m) : (stepsC 4 d).toNat = m := by
  have h1 := stepC_even d (8 * m) (by omega)
  have h2 := stepC_even _ (4 * m) (by rw [h1]; omega)
  have h3 := stepC_even _ (2 * m) (by rw [h2]; omega)
  exact stepC_even _ m h3
theorem half_step (c : BitVec 32) : stepsC 4 c = stepsC 4 (c &&& 15#32) ^^^ (c >>> 4) := by
  have e : c = (c &&& 15#32) ^^^ (c &&& ~~~15#32) := by
    apply BitVec.eq_of_getLsbD_eq
    intro i hi
    simp only [BitVec.getLsbD_xor, BitVec.getLsbD_and, BitVec.getLsbD_not, hi, decide_true, Bool.true_and]
    cases c.getLsbD i <;> cases (15#32).getLsbD i <;> rfl
  have e2 : c &&& ~~~15#32 = (c >>> 4) <<< 4 := by
    apply BitVec.eq_of_getLsbD_eq
    intro i hi
    simp only [BitVec.getLsbD_and, BitVec.getLsbD_not, BitVec.getLsbD_shiftLeft, BitVec.getLsbD_ushiftRight, hi, decide_true, Bool.true_and]
    by_cases h4 : i < 4
    · have : (15#32).getLsbD i = true := by
        match i, h4 with
        | 0, _ => rfl
        | 1, _ => rfl
        | 2, _ => rfl
        | 3, _ => rfl
      simp [h4, this]
    · have : (15#32).getLsbD i = false := by
        rw [BitVec.getLsbD]
        exact Nat.testBit_lt_two_pow (Nat.lt_of_lt_of_le (show (15#32).toNat < 2 ^ 4 by decide) (Nat.pow_le_pow_right (by decide) (by omega)))
      simp [h4, this, show 4 + (i - 4) = i by omega]
  have e3 : stepsC 4 (c &&& ~~~15#32) = c >>> 4 := by
    apply BitVec.eq_of_toNat_eq
    refine stepsC_four _ _ ?_
    have hc := c.isLt
    rw [e2, BitVec.toNat_shiftLeft, BitVec.toNat_ushiftRight, Nat.shiftRight_eq_div_pow, Nat.shiftLeft_eq, Nat.mod_eq_of_lt (by omega)]
    omega
  conv => lhs; rw [e, stepsC_xor, e3]

theorem inC_inj {a b : UInt8} (h : inC a = inC b) : a = b := by
  have h1 := congrArg BitVec.toNat h
  have ha := a.toNat_lt
  have hb := b.toNat_lt
  simp only [inC, BitVec.toNat_ofNat] at h1
  apply UInt8.toNat_inj.1
  omega
theorem byteC_inj {c c' : BitVec 32} {b : UInt8} (h : byteC c b = byteC c' b) : c = c' := by
  have := stepsC_inj 8 h
  exact (BitVec.xor_left_inj _).1 this
theorem byteC_inj2 {c : BitVec 32} {b b' : UInt8} (h : byteC c b = byteC c b') : b = b' := by
  have := stepsC_inj 8 h
  exact inC_inj ((BitVec.xor_right_inj _).1 this)
theorem fold_inj : ∀ (l : List UInt8) {c c' : BitVec 32}, l.foldl byteC c = l.foldl byteC c' → c = c'
  | [], _, _, h => h
  | _ :: l, _, _, h => byteC_inj (fold_inj l h)
/-- a byte that is another one gives another sum -/
theorem sumC_set (l : List UInt8) (i : Nat) (x : UInt8) (hi : i < l.length) (hx : x ≠ l[i]) : sumC (l.set i x) ≠ sumC l := by
  intro h
  have h1 : crcC (l.set i x) = crcC l := (BitVec.xor_left_inj _).1 h
  have e1 : l = l.take i ++ l[i] :: l.drop (i + 1) := by rw [← List.drop_eq_getElem_cons hi, List.take_append_drop]
  have e2 : l.set i x = l.take i ++ x :: l.drop (i + 1) := by rw [List.set_eq_take_append_cons_drop, if_pos hi]
  rw [e2] at h1
  conv at h1 => rhs; rw [e1]
  simp only [crcC, List.foldl_append, List.foldl_cons] at h1
  exact hx (byteC_inj2 (fold_inj _ h1))

-- how the values look
theorem ofI (d : BitVec 32) : BitVec.ofInt 32 (d.toNat : Int) = d := by
  apply BitVec.eq_of_toNat_eq
  rw [BitVec.toNat_ofInt]
  have := d.isLt
  simp
  omega
theorem half_val (d : BitVec 32) : IntKind.u32.wrap ((d.toNat : Int).tdiv 2) = (((d >>> 1).toNat : Nat) : Int) := by
  rw [BitVec.toNat_ushiftRight, Nat.shiftRight_eq_div_pow, show (d.toNat : Int).tdiv 2 = ((d.toNat / 2 : Nat) : Int) from rfl]
  have := d.isLt
  simp [IntKind.wrap, IntKind.bits, IntKind.signed]
  omega
theorem odd_iff (d : BitVec 32) : (d.toNat : Int).tmod 2 = 1 ↔ d.toNat % 2 = 1 := by
  rw [show (d.toNat : Int).tmod 2 = ((d.toNat % 2 : Nat) : Int) from rfl]; omega
theorem byte_val (b : UInt8) : (b.toNat : Int) = (((inC b).toNat : Nat) : Int) := by
  have := b.toNat_lt
  simp only [inC, BitVec.toNat_ofNat]; omega
end Go.Dk
