/-
  Plain: the things that are written and asked for.
-/
import Derived.Test.YtjmkgpkgagohoaaPlSuf
set_option linter.all false
namespace Go.Dk
set_option autoImplicit false

structure Thing where
  kind : Int
  n : Nat
  m : Nat
  b : List UInt8

def Thing.dat (t : Thing) : List Dat := [.v (.int .i64 t.kind), .v (.int .u64 t.n), .v (.int .u64 t.m), .sl 1 (rowsB t.b)]
def Thing.ok (t : Thing) : Prop := (-9223372036854775808 ≤ t.kind ∧ t.kind ≤ 9223372036854775807) ∧ t.n < 18446744073709551616 ∧ t.m < 18446744073709551616
/-- what is written of a thing -/
def Thing.out (t : Thing) : List UInt8 :=
  if t.kind = 0 then [UInt8.ofNat t.n] else if t.kind = 1 then highB t.n 4 else if t.kind = 2 then highB t.n 8 else if t.kind = 3 then varB t.n else if t.kind = 4 then t.b
  else if t.kind = 5 then varB t.b.length ++ t.b else []

theorem highB_mod : ∀ (k n m : Nat), k ≤ m → highB (n % 256 ^ m) k = highB n k
  | 0, _, _, _ => rfl
  | k + 1, n, m, h => by
    simp only [highB]
    rw [highB_mod k n m (by omega)]
    congr 1
    apply UInt8.toNat_inj.1
    rw [UInt8.toNat_ofNat', UInt8.toNat_ofNat', Nat.pow_mul]
    have e : (256 : Nat) ^ m = 256 ^ (k + 1) * 256 ^ (m - (k + 1)) := by rw [← Nat.pow_add]; congr 1; omega
    show (n % 256 ^ m / 256 ^ k) % 256 = (n / 256 ^ k) % 256
    rw [e, Nat.mod_mul, Nat.pow_succ, Nat.mod_mul]
    have h0 : n % 256 ^ k / 256 ^ k = 0 := Nat.div_eq_of_lt (Nat.mod_lt _ (Nat.pow_pos (by decide)))
    rw [Nat.mul_assoc, Nat.add_assoc, ← Nat.mul_add, Nat.add_mul_div_left _ _ (Nat.pow_pos (by decide)), h0, Nat.zero_add]
    omega

theorem Thing.out_len (t : Thing) : t.out.length ≤ t.b.length + 9 := by
  have h1 := varB_length t.n
  have h2 := varB_length t.b.length
  unfold Thing.out
  repeat' split
  all_goals simp [highB_length]
  all_goals omega
end Go.Dk
