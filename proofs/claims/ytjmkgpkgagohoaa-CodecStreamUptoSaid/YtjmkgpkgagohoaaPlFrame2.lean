/-
  Plain: what was framed is told again; what is cut is short; a byte that is another one is found.
-/
import Derived.Test.YtjmkgpkgagohoaaPlFrame
set_option linter.all false
namespace Go.Dk
set_option autoImplicit false
set_option linter.unusedSimpArgs false

theorem numB_inj {a b : List UInt8} (hl : a.length = b.length) (h : numB a = numB b) : a = b := by
  rw [← highB_numB a, ← highB_numB b, h, hl]
theorem cut4 (h1 t : List UInt8) (hl : h1.length = 4) : (h1 ++ t).take 4 = h1 ∧ (h1 ++ t).drop 4 = t := by
  constructor
  · rw [List.take_append_of_le_length (by omega), List.take_of_length_le (by omega)]
  · rw [List.drop_append_of_le_length (by omega), List.drop_of_length_le (by omega), List.nil_append]
theorem cut8 (h1 h2 t : List UInt8) (hl1 : h1.length = 4) (hl2 : h2.length = 4) : (h1 ++ (h2 ++ t)).drop 8 = t := by
  rw [show (8 : Nat) = 4 + 4 from rfl, ← List.drop_drop, (cut4 h1 _ hl1).2, (cut4 h2 _ hl2).2]

theorem unframe_bad (h1 h2 t : List UInt8) (hl1 : h1.length = 4) (hl2 : h2.length = 4) (h : numB h2 ≠ (sumC h1).toNat) : unframeU (h1 ++ (h2 ++ t)) = ([], 0, 14) := by
  unfold unframeU
  rw [if_neg (by simp; omega), (cut4 h1 _ hl1).1, (cut4 h1 _ hl1).2, (cut4 h2 _ hl2).1, if_pos h]
theorem unframe_cut (h1 h2 q : List UInt8) (hl1 : h1.length = 4) (hl2 : h2.length = 4) (h : numB h2 = (sumC h1).toNat) (hn : numB h1 ≤ 16777216) (hq : q.length < numB h1 + 4) : unframeU (h1 ++ (h2 ++ q)) = ([], 0, 10) := by
  unfold unframeU
  rw [if_neg (by simp; omega), (cut4 h1 _ hl1).1, (cut4 h1 _ hl1).2, (cut4 h2 _ hl2).1, if_neg (by simp [h]), if_neg (by omega), if_pos (by simp; omega)]
theorem unframe_whole (h1 h2 x h3 t : List UInt8) (hl1 : h1.length = 4) (hl2 : h2.length = 4) (hl3 : h3.length = 4) (h : numB h2 = (sumC h1).toNat) (hx : numB h1 = x.length) (hn : x.length ≤ 16777216) :
    unframeU (h1 ++ (h2 ++ (x ++ (h3 ++ t)))) = if numB h3 ≠ (sumC x).toNat then ([], 0, 14) else (x, x.length + 12, 0) := by
  unfold unframeU
  rw [if_neg (by simp; omega), (cut4 h1 _ hl1).1, (cut4 h1 _ hl1).2, (cut4 h2 _ hl2).1, if_neg (by simp [h]), hx, if_neg (by omega), if_neg (by simp; omega), cut8 h1 h2 _ hl1 hl2]
  have e1 : (x ++ (h3 ++ t)).take x.length = x := by simp
  have e2 : (h1 ++ (h2 ++ (x ++ (h3 ++ t)))).drop (8 + x.length) = h3 ++ t := by
    rw [← List.drop_drop, cut8 h1 h2 _ hl1 hl2]; simp
  rw [e1, e2, (cut4 h3 _ hl3).1]

theorem frame_parts (b : List UInt8) : frameB b = highB b.length 4 ++ (highB (sumC (highB b.length 4)).toNat 4 ++ (b ++ highB (sumC b).toNat 4)) := by simp [frameB]
theorem num4 (n : Nat) (h : n < 4294967296) : numB (highB n 4) = n := numB_highB 4 n h

/-- what was framed is told again, whatever stands behind it -/
theorem unframe_frame (b more : List UInt8) (hb : b.length ≤ 16777216) : unframeU (frameB b ++ more) = (b, b.length + 12, 0) := by
  rw [frame_parts]
  simp only [List.append_assoc]
  rw [unframe_whole _ _ _ _ _ (highB_length _ _) (highB_length _ _) (highB_length _ _) (num4 _ (sumC _).isLt) (num4 _ (by omega)) hb, if_neg (by rw [num4 _ (sumC _).isLt]; simp)]
/-- no shorter beginning is a frame -/
theorem unframe_take (b : List UInt8) (hb : b.length ≤ 16777216) (cut : Nat) (hc : cut < (frameB b).length) : unframeU ((frameB b).take cut) = ([], 0, 10) := by
  have hfl := frameB_length b
  by_cases h8 : cut < 8
  · unfold unframeU
    rw [if_pos (by simp; omega)]
  · have e : (frameB b).take cut = highB b.length 4 ++ (highB (sumC (highB b.length 4)).toNat 4 ++ (b ++ highB (sumC b).toNat 4).take (cut - 8)) := by
      rw [frame_parts, List.take_append, List.take_of_length_le (by rw [highB_length]; omega), List.take_append, List.take_of_length_le (by rw [highB_length, highB_length]; omega), highB_length, highB_length]
      congr 3
    rw [e]
    refine unframe_cut _ _ _ (highB_length _ _) (highB_length _ _) (num4 _ (sumC _).isLt) (by rw [num4 _ (by omega)]; exact hb) ?_
    rw [num4 _ (by omega)]
    simp [highB_length]; omega
/-- a byte that is another one is found -/
theorem unframe_set (b : List UInt8) (hb : b.length ≤ 16777216) (i : Nat) (c : UInt8) (hi : i < (frameB b).length) (hc : c ≠ (frameB b)[i]) : unframeU ((frameB b).set i c) = ([], 0, 14) := by
  have hfl := frameB_length b
  generalize hf : frameB b = f at *
  rw [frame_parts] at hf
  have n1 := num4 b.length (by omega)
  have l1 := highB_length b.length 4
  generalize highB b.length 4 = h1 at *
  have n2 := num4 (sumC h1).toNat (sumC h1).isLt
  have l2 := highB_length (sumC h1).toNat 4
  generalize highB (sumC h1).toNat 4 = h2 at *
  have n3 := num4 (sumC b).toNat (sumC b).isLt
  have l3 := highB_length (sumC b).toNat 4
  generalize highB (sumC b).toNat 4 = h3 at *
  subst hf
  by_cases i1 : i < 4
  · rw [List.set_append_left _ _ (by omega)]
    refine unframe_bad _ _ _ (by simp [l1]) l2 ?_
    rw [n2]
    intro e
    refine sumC_set h1 i c (by omega) ?_ (BitVec.eq_of_toNat_eq e.symm)
    rwa [List.getElem_append_left (by omega)] at hc
  · rw [List.set_append_right _ _ (by omega), l1]
    rw [List.getElem_append_right (by omega)] at hc
    simp only [l1] at hc
    by_cases i2 : i < 8
    · rw [List.set_append_left _ _ (by omega)]
      refine unframe_bad _ _ _ l1 (by simp [l2]) ?_
      rw [← n2]
      intro e
      have e2 := numB_inj (by simp) e
      rw [List.getElem_append_left (by omega)] at hc
      refine hc ?_
      have := congrArg (fun l : List UInt8 => l[i - 4]?) e2
      simp only [List.getElem?_set_self (show i - 4 < h2.length by omega), List.getElem?_eq_getElem (show i - 4 < h2.length by omega), Option.some.injEq] at this
      exact this
    · rw [List.set_append_right _ _ (by omega), l2]
      rw [List.getElem_append_right (by omega)] at hc
      simp only [l2] at hc
      by_cases i3 : i < 8 + b.length
      · rw [List.set_append_left _ _ (by omega)]
        rw [List.getElem_append_left (by omega)] at hc
        have := unframe_whole h1 h2 (b.set (i - 4 - 4) c) h3 [] l1 l2 l3 n2 (by rw [n1]; simp) (by simpa using hb)
        rw [List.append_nil] at this
        rw [this, if_pos]
        rw [n3]
        intro e
        exact sumC_set b (i - 4 - 4) c (by omega) hc (BitVec.eq_of_toNat_eq e.symm)
      · rw [List.set_append_right _ _ (by omega)]
        rw [List.getElem_append_right (by omega)] at hc
        have := unframe_whole h1 h2 b (h3.set (i - 4 - 4 - b.length) c) [] l1 l2 (by simp [l3]) n2 n1 hb
        rw [List.append_nil] at this
        rw [this, if_pos]
        rw [← n3]
        intro e
        have e2 := numB_inj (by simp) e
        refine hc ?_
        simp only [List.length_append, l1, l2, l3] at hi
        have := congrArg (fun l : List UInt8 => l[i - 4 - 4 - b.length]?) e2
        simp only [List.getElem?_set_self (show i - 4 - 4 - b.length < h3.length by omega), List.getElem?_eq_getElem (show i - 4 - 4 - b.length < h3.length by omega), Option.some.injEq] at this
        exact this
end Go.Dk
