/-
  PlCodec: contracts of functions of the program, and what follows from them.
-/
import Derived.Test.YtjmkgpkgagohoaaDk3
set_option linter.all false
/-! Numbers and their bytes. -/
namespace Go.Dk
open Go

theorem numB_cons_aux : ∀ (l : List UInt8) (a : Nat), l.foldl (fun a b => a * 256 + b.toNat) a = a * 256 ^ l.length + numB l
  | [], a => by simp [numB]
  | b :: l, a => by
    have h1 := numB_cons_aux l (a * 256 + b.toNat)
    have h2 := numB_cons_aux l b.toNat
    simp only [List.foldl_cons, List.length_cons, numB, Nat.zero_mul, Nat.zero_add] at h1 h2 ⊢
    rw [h1, h2, Nat.pow_succ, Nat.add_mul, Nat.mul_assoc, Nat.mul_comm 256, Nat.add_assoc]
theorem numB_cons (b : UInt8) (l : List UInt8) : numB (b :: l) = b.toNat * 256 ^ l.length + numB l := by
  have := numB_cons_aux l b.toNat
  simpa [numB] using this
theorem pow8 (k : Nat) : 2 ^ (8 * k) = 256 ^ k := by rw [Nat.pow_mul]
theorem highB_add (b m : Nat) : ∀ (k j : Nat), j ≤ k → highB (b * 256 ^ k + m) j = highB m j
  | k, 0, _ => rfl
  | k, j + 1, h => by
    simp only [highB, pow8]
    rw [highB_add b m k j (by omega)]
    congr 1
    have e : b * 256 ^ k = 256 ^ j * (256 * (b * 256 ^ (k - j - 1))) := by
      have : 256 ^ k = 256 ^ j * (256 * 256 ^ (k - j - 1)) := by
        rw [← Nat.pow_succ', ← Nat.pow_add]; congr 1; omega
      rw [this, Nat.mul_left_comm b, Nat.mul_left_comm b]
    rw [e, Nat.mul_add_div (Nat.pow_pos (by decide))]
    apply UInt8.toNat_inj.1
    simp only [UInt8.toNat_ofNat']
    rw [Nat.mul_add_mod]
theorem highB_numB : ∀ (l : List UInt8), highB (numB l) l.length = l
  | [] => rfl
  | b :: l => by
    rw [numB_cons]
    simp only [List.length_cons, highB, pow8]
    rw [highB_add _ _ _ _ (Nat.le_refl _), highB_numB l]
    congr 1
    have h := numB_lt l
    rw [Nat.mul_comm, Nat.mul_add_div (Nat.pow_pos (by decide)), Nat.div_eq_of_lt h]
    simp
theorem numB_highB : ∀ (k n : Nat), n < 256 ^ k → numB (highB n k) = n
  | 0, n, h => by simp at h; subst h; rfl
  | k + 1, n, h => by
    have e : highB n k = highB (n % 256 ^ k) k := by
      have := highB_add (n / 256 ^ k) (n % 256 ^ k) k k (Nat.le_refl _)
      rw [Nat.div_add_mod'] at this; exact this
    simp only [highB]
    rw [numB_cons, highB_length, e, numB_highB k _ (Nat.mod_lt _ (Nat.pow_pos (by decide))), pow8]
    have hlt : n / 256 ^ k < 256 := Nat.div_lt_of_lt_mul (by rw [Nat.pow_succ] at h; exact h)
    simp only [UInt8.toNat_ofNat']
    rw [Nat.mod_eq_of_lt hlt, Nat.div_add_mod']

/-- what is read stood there -/
theorem highR_ok {k n : Nat} {r : RS} {rs : List UInt8} (h : highR k r = (n, rs, 0)) : r.2 = 0 ∧ ∃ l, l.length = k ∧ r.1 = l ++ rs ∧ n = numB l := by
  obtain ⟨b, e⟩ := r
  simp only [highR, takeR, Prod.mk.injEq] at h
  split at h
  · simp at h
  · split at h
    · rename_i h1 h2
      simp only [ne_eq] at h2
      simp at h
      exact absurd h.2.2 h2
    · rename_i h1 h2
      simp only [ne_eq, Decidable.not_not] at h2
      subst h2
      simp at h h1
      exact ⟨rfl, b.take k, by simp; omega, by rw [← h.2, List.take_append_drop], h.1.symm⟩
theorem highR_of {k : Nat} (l rs : List UInt8) (h : l.length = k) : highR k (l ++ rs, 0) = (numB l, rs, 0) := by
  subst h
  simp only [highR, takeR]
  rw [if_neg (by simp), if_neg (by simp)]
  simp

theorem var1_ok {n m : Nat} {r : RS} {rs : List UInt8} (h : var1 r = (n, m, rs, 0)) (hm : m ≤ n) : r.2 = 0 ∧ r.1 = varB n ++ rs := by
  unfold var1 at h
  have one : ∀ {c : Nat} {l : List UInt8}, l.length = 1 → numB l = c → l = [UInt8.ofNat c] := by
    intro c l hl hc
    match l, hl with
    | [b], _ => simp [numB] at hc; subst hc; simp
  have two : ∀ (k m' : Nat), m' ≤ n → (m = m') → (((highR k (highR 1 r).2).1, m', (highR k (highR 1 r).2).2) = (n, m, rs, 0)) → ∀ c, (highR 1 r).1 = c →
      r.2 = 0 ∧ n < 256 ^ k ∧ r.1 = UInt8.ofNat c :: highB n k ++ rs := by
    intro k m' hle hmm he c hc
    simp only [Prod.mk.injEq] at he
    obtain ⟨h1, h2, h3⟩ := he
    have e1 : highR k (highR 1 r).2 = (n, rs, 0) := Prod.ext h1 h3
    obtain ⟨h4, l, h5, h6, h7⟩ := highR_ok e1
    have e2 : highR 1 r = (c, (highR 1 r).2.1, 0) := Prod.ext hc (Prod.ext rfl h4)
    obtain ⟨h8, l1, h9, h10, h11⟩ := highR_ok e2
    refine ⟨h8, by rw [h7, ← h5]; exact numB_lt l, ?_⟩
    rw [h10, h6, one h9 h11.symm, h7, ← h5, highB_numB]; simp
  split at h
  · rename_i hc
    have hmm : m = 253 := by simp only [Prod.mk.injEq] at h; omega
    obtain ⟨h1, h2, h3⟩ := two 2 253 (by omega) hmm h _ hc
    refine ⟨h1, ?_⟩
    rw [h3, varB, if_neg (by omega), if_pos (by omega)]; rfl
  · split at h
    · rename_i _ hc
      have hmm : m = 65536 := by simp only [Prod.mk.injEq] at h; omega
      obtain ⟨h1, h2, h3⟩ := two 4 65536 (by omega) hmm h _ hc
      refine ⟨h1, ?_⟩
      rw [h3, varB, if_neg (by omega), if_neg (by omega), if_pos (by omega)]; rfl
    · split at h
      · rename_i _ _ hc
        have hmm : m = 4294967296 := by simp only [Prod.mk.injEq] at h; omega
        obtain ⟨h1, h2, h3⟩ := two 8 4294967296 (by omega) hmm h _ hc
        refine ⟨h1, ?_⟩
        rw [h3, varB, if_neg (by omega), if_neg (by omega), if_neg (by omega)]; rfl
      · rename_i c3 c4 c5
        simp only [Prod.mk.injEq] at h
        obtain ⟨h1, h2, h3⟩ := h
        have e1 : highR 1 r = (n, rs, 0) := Prod.ext h1 h3
        obtain ⟨h4, l, h5, h6, h7⟩ := highR_ok e1
        have hlt := numB_lt l
        rw [h5, ← h7] at hlt
        refine ⟨h4, ?_⟩
        rw [h6, varB, if_pos (by omega), one h5 h7.symm]
/-- a number that is read stood there in its one form -/
theorem varR_ok {most n : Nat} {r : RS} {rs : List UInt8} (h : varR most r = (n, rs, 0)) : r.2 = 0 ∧ r.1 = varB n ++ rs ∧ n ≤ most := by
  unfold varR varFin at h
  split at h
  · rename_i h1; simp at h; exact absurd h.2.2 h1
  · split at h
    · simp at h
    · split at h
      · simp at h
      · rename_i h1 h2 h3
        simp only [Prod.mk.injEq] at h
        obtain ⟨h4, h5⟩ := h
        have e : var1 r = (n, (var1 r).2.1, rs, 0) := by rw [← h4, ← h5]
        obtain ⟨h6, h7⟩ := var1_ok e (by omega)
        exact ⟨h6, h7, by omega⟩
theorem varR_bad {most n : Nat} {r : RS} {rs : List UInt8} {e : Int} (h : varR most r = (n, rs, e)) (he : e ≠ 0) : n = 0 ∧ rs = r.1 := by
  unfold varR varFin at h
  split at h
  · simp at h; exact ⟨h.1.symm, h.2.1.symm⟩
  · split at h
    · simp at h; exact ⟨h.1.symm, h.2.1.symm⟩
    · split at h
      · simp at h; exact ⟨h.1.symm, h.2.1.symm⟩
      · rename_i h1 _ _
        simp only [Prod.mk.injEq] at h
        rw [h.2] at h1
        exact absurd he h1
end Go.Dk
