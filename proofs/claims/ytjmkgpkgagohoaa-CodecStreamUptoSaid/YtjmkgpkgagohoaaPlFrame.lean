/-
  Plain: frames.
-/
import Derived.Test.YtjmkgpkgagohoaaPlCrc
import Derived.Test.YtjmkgpkgagohoaaPlBack
set_option linter.all false
namespace Go.Dk
set_option autoImplicit false
set_option linter.unusedSimpArgs false

def frameB (b : List UInt8) : List UInt8 := highB b.length 4 ++ highB (sumC (highB b.length 4)).toNat 4 ++ b ++ highB (sumC b).toNat 4
def frameF (b : List UInt8) : List UInt8 × Int := if 16777216 < b.length then ([], 12) else (frameB b, 0)

/-- what the bytes' first frame says, as the document tells it -/
def unframeU (b : List UInt8) : List UInt8 × Nat × Int :=
  if b.length < 8 then ([], 0, 10)
  else if numB ((b.drop 4).take 4) ≠ (sumC (b.take 4)).toNat then ([], 0, 14)
  else if 16777216 < numB (b.take 4) then ([], 0, 12)
  else if b.length < numB (b.take 4) + 12 then ([], 0, 10)
  else if numB ((b.drop (8 + numB (b.take 4))).take 4) ≠ (sumC ((b.drop 8).take (numB (b.take 4)))).toNat then ([], 0, 14)
  else ((b.drop 8).take (numB (b.take 4)), numB (b.take 4) + 12, 0)

theorem highR_fine {k : Nat} {b : List UInt8} (h : k ≤ b.length) : highR k (b, 0) = (numB (b.take k), b.drop k, 0) := by
  simp [highR, takeR, Nat.not_lt.2 h]
theorem frameB_length (b : List UInt8) : (frameB b).length = b.length + 12 := by simp [frameB, highB_length]; omega

theorem unframe_short {b : List UInt8} {n s : Nat} {r1 r2 : List UInt8} {e1 e2 : Int} (h1 : highR 4 (b, 0) = (n, r1, e1)) (h2 : highR 4 (r1, e1) = (s, r2, e2)) (he : e2 ≠ 0) : unframeU b = ([], 0, 10) := by
  unfold unframeU
  by_cases h : b.length < 8
  · rw [if_pos h]
  · exfalso
    rw [highR_fine (by omega)] at h1
    simp only [Prod.mk.injEq] at h1
    obtain ⟨_, rfl, rfl⟩ := h1
    rw [highR_fine (by simp; omega)] at h2
    simp only [Prod.mk.injEq] at h2
    exact he h2.2.2.symm
theorem unframe_head {b : List UInt8} {n s : Nat} {r1 r2 : List UInt8} {e1 : Int} (h1 : highR 4 (b, 0) = (n, r1, e1)) (h2 : highR 4 (r1, e1) = (s, r2, 0)) :
    8 ≤ b.length ∧ n = numB (b.take 4) ∧ s = numB ((b.drop 4).take 4) ∧ r2 = b.drop 8 ∧ e1 = 0 := by
  obtain ⟨he, l2, hl2, hr2, hn2⟩ := highR_ok h2
  dsimp only at he hr2
  subst he
  obtain ⟨_, l1, hl1, hr1, hn1⟩ := highR_ok h1
  dsimp only at hr1
  subst hr1 hr2 hn1 hn2
  refine ⟨by simp; omega, ?_, ?_, ?_, rfl⟩
  · rw [List.take_append_of_le_length (by omega), List.take_of_length_le (by omega)]
  · rw [List.drop_append_of_le_length (by omega), List.drop_of_length_le (by omega), List.nil_append, List.take_append_of_le_length (by omega), List.take_of_length_le (by omega)]
  · rw [← List.append_assoc, List.drop_append_of_le_length (by simp; omega), List.drop_of_length_le (by simp; omega), List.nil_append]
theorem unframe_tail {b : List UInt8} {n s2 : Nat} {x r3 r4 : List UInt8} {e3 e4 : Int} (h3 : rawR (n : Int) (b.drop 8, 0) = (x, r3, e3)) (h4 : highR 4 (r3, e3) = (s2, r4, e4)) (h8 : 8 ≤ b.length) :
    (e4 ≠ 0 ∧ b.length < n + 12) ∨ (e4 = 0 ∧ n + 12 ≤ b.length ∧ x = (b.drop 8).take n ∧ s2 = numB ((b.drop (8 + n)).take 4)) := by
  by_cases h : n ≤ (b.drop 8).length
  · rw [rawR_fine h] at h3
    simp only [Prod.mk.injEq] at h3
    obtain ⟨rfl, rfl, rfl⟩ := h3
    rw [List.drop_drop] at h4
    by_cases h' : 4 ≤ (b.drop (8 + n)).length
    · rw [highR_fine h'] at h4
      simp only [Prod.mk.injEq] at h4
      right
      refine ⟨h4.2.2.symm, ?_, rfl, h4.1.symm⟩
      simp at h'; omega
    · have hh : (highR 4 (b.drop (8 + n), 0)).2 = (b.drop (8 + n), 10) := highR_short (by omega)
      rw [h4] at hh
      simp only [Prod.mk.injEq] at hh
      left
      refine ⟨by rw [hh.2]; decide, ?_⟩
      simp at h'; omega
  · rw [rawR_short (by omega)] at h3
    simp only [Prod.mk.injEq] at h3
    obtain ⟨rfl, rfl, rfl⟩ := h3
    rw [highR_bad (by decide)] at h4
    simp only [Prod.mk.injEq] at h4
    left
    refine ⟨by rw [← h4.2.2]; decide, ?_⟩
    simp at h; omega
end Go.Dk
