/-
  Plain: what readers leave is an end of what they had.
-/
import Derived.Test.YtjmkgpkgagohoaaPlCodec
set_option linter.all false
namespace Go.Dk
set_option linter.unusedSimpArgs false
set_option autoImplicit false

theorem takeR_suf (k : Nat) (r : RS) : (takeR k r).2.1 <:+ r.1 := by
  unfold takeR; split
  · exact List.suffix_refl _
  · split
    · exact List.suffix_refl _
    · exact List.drop_suffix _ _
theorem highR_suf {k n : Nat} {r : RS} {rs : List UInt8} {e : Int} (h : highR k r = (n, rs, e)) : rs <:+ r.1 := by
  have := takeR_suf k r
  simp only [highR, Prod.mk.injEq] at h
  rw [h.2] at this; exact this
theorem var1_suf (r : RS) : (var1 r).2.2.1 <:+ r.1 := by
  have k1 : ∀ k (r : RS), (highR k r).2.1 <:+ r.1 := fun k r => takeR_suf k r
  unfold var1
  split
  · exact (k1 _ _).trans (k1 _ _)
  · split
    · exact (k1 _ _).trans (k1 _ _)
    · split
      · exact (k1 _ _).trans (k1 _ _)
      · exact k1 _ _
theorem varR_suf {most n : Nat} {r : RS} {rs : List UInt8} {e : Int} (h : varR most r = (n, rs, e)) : rs <:+ r.1 := by
  have h1 := var1_suf r
  unfold varR varFin at h
  split at h
  · simp only [Prod.mk.injEq] at h; rw [← h.2.1]; exact List.suffix_refl _
  · split at h
    · simp only [Prod.mk.injEq] at h; rw [← h.2.1]; exact List.suffix_refl _
    · split at h
      · simp only [Prod.mk.injEq] at h; rw [← h.2.1]; exact List.suffix_refl _
      · simp only [Prod.mk.injEq] at h; rw [h.2] at h1; exact h1
theorem roomR_suf {most : Int} {n : Nat} {r : RS} {rs : List UInt8} {e : Int} (h : roomR most r = (n, rs, e)) : rs <:+ r.1 := by
  unfold roomR at h
  split at h
  · simp only [Prod.mk.injEq] at h; rw [← h.2.1]; exact List.suffix_refl _
  · exact varR_suf h
theorem getT_suf {k : Nat} {r : RS} {l rs : List UInt8} {e : Int} (h : getT k r = (l, rs, e)) : rs <:+ r.1 := by
  have := takeR_suf k r
  simp only [getT, Prod.mk.injEq] at h
  rw [h.2] at this; exact this
theorem rawR_suf {k : Int} {r : RS} {l rs : List UInt8} {e : Int} (h : rawR k r = (l, rs, e)) : rs <:+ r.1 := by
  unfold rawR at h
  split at h
  · simp only [Prod.mk.injEq] at h; rw [← h.2.1]; exact List.suffix_refl _
  · exact getT_suf h
theorem suf_drop {α : Type} {rs b : List α} (h : rs <:+ b) : b.drop (b.length - rs.length) = rs := by
  obtain ⟨t, rfl⟩ := h
  simp
theorem getT_length {k : Nat} {r : RS} {l rs : List UInt8} {e : Int} (h : getT k r = (l, rs, e)) : l.length ≤ k := by
  simp only [getT, Prod.mk.injEq] at h
  rw [← h.1]
  unfold takeR; split <;> (try split) <;> simp
  exact Nat.min_le_left _ _
theorem rawR_neg {n : Int} {r : RS} (h : n < 0) : rawR n r = ([], (r.1, if r.2 = 0 then 12 else r.2)) := if_pos h
theorem rawR_bad {n : Int} {rs : List UInt8} {e : Int} (he : e ≠ 0) : rawR n (rs, e) = ([], rs, e) := by
  unfold rawR
  split
  · simp [he]
  · simp [getT, takeR, he]
theorem rawR_short {n : Nat} {rs : List UInt8} (h : rs.length < n) : rawR n (rs, 0) = ([], rs, 10) := by
  rw [rawR, if_neg (by omega)]; simp [getT, takeR, h]
theorem rawR_fine {n : Nat} {rs : List UInt8} (h : n ≤ rs.length) : rawR n (rs, 0) = (rs.take n, rs.drop n, 0) := by
  rw [rawR, if_neg (by omega)]; simp [getT, takeR, Nat.not_lt.2 h]
theorem high_raw (k : Nat) (r : RS) : highR k r = (numB (rawR k r).1, (rawR k r).2) := by
  rw [rawR, if_neg (by omega)]; simp [highR, getT]

theorem var1_err {r : RS} {c : Nat} {rs : List UInt8} {e : Int} (h : highR 1 r = (c, rs, e)) (he : e ≠ 0) (most : Nat) : varR most r = (0, r.1, e) := by
  have hr : ∀ k, highR k (rs, e) = (0, rs, e) := fun k => by simp [highR, takeR, he, numB]
  unfold varR varFin var1
  simp only [h, hr]
  split
  · simp [he]
  · split
    · simp [he]
    · split <;> simp [he]
theorem varR_small {r : RS} {c : Nat} {rs : List UInt8} (h : highR 1 r = (c, rs, 0)) (hc : c < 253) (most : Nat) : varR most r = if most < c then (0, r.1, 12) else (c, rs, 0) := by
  unfold varR varFin var1
  simp only [h]
  rw [if_neg (show ¬ c = 253 by omega), if_neg (show ¬ c = 254 by omega), if_neg (show ¬ c = 255 by omega)]
  simp
theorem varR_big {r : RS} {c n many least : Nat} {rs rs2 : List UInt8} {e : Int} (h : highR 1 r = (c, rs, 0)) (hc : (c = 253 ∧ many = 2 ∧ least = 253) ∨ (c = 254 ∧ many = 4 ∧ least = 65536) ∨ (c = 255 ∧ many = 8 ∧ least = 4294967296))
    (h2 : highR many (rs, 0) = (n, rs2, e)) (most : Nat) : varR most r = if e ≠ 0 then (0, r.1, e) else if n < least then (0, r.1, 11) else if most < n then (0, r.1, 12) else (n, rs2, e) := by
  unfold varR varFin var1
  simp only [h]
  rcases hc with ⟨rfl, rfl, rfl⟩ | ⟨rfl, rfl, rfl⟩ | ⟨rfl, rfl, rfl⟩ <;> simp [h2]
theorem roomR_good {r : RS} {n : Nat} {rs : List UInt8} (hv : ∀ most, varR most r = if most < n then (0, r.1, 12) else (n, rs, 0)) (m : Int) :
    roomR m r = if m < 0 ∨ m < n then (0, r.1, 12) else (n, rs, 0) := by
  unfold roomR
  simp only [hv]
  by_cases h1 : m < 0
  · simp only [h1, true_or, if_true, true_and]
    have : m.toNat = 0 := by omega
    rw [this]
    by_cases h2 : 0 < n
    · simp [h2]
    · simp [h2]
  · simp only [h1, false_and, if_false, false_or]
    by_cases h2 : m < n
    · rw [if_pos (show m.toNat < n by omega), if_pos h2]
    · rw [if_neg (show ¬ m.toNat < n by omega), if_neg h2]
theorem roomR_err {r : RS} {e : Int} (he : e ≠ 0) (hv : ∀ most, varR most r = (0, r.1, e)) (m : Int) : roomR m r = (0, r.1, e) := by
  unfold roomR
  simp only [hv]
  simp [he]
end Go.Dk
