/-
  Plain: what was written is read as it was; of a shorter beginning the reader fails for want of bytes.
-/
import Derived.Test.YtjmkgpkgagohoaaPlThing
set_option linter.all false
namespace Go.Dk
set_option autoImplicit false
set_option linter.unusedSimpArgs false

/-- what a reader says of a thing that was written -/
def backR (t : Thing) (r : RS) : Bool × RS :=
  if t.kind = 0 then (decide ((highR 1 r).1 = t.n % 256), (highR 1 r).2)
  else if t.kind = 1 then (decide ((highR 4 r).1 = t.n % 4294967296), (highR 4 r).2)
  else if t.kind = 2 then (decide ((highR 8 r).1 = t.n), (highR 8 r).2)
  else if t.kind = 3 then (decide ((varR t.n r).1 = t.n), (varR t.n r).2)
  else if t.kind = 4 then (decide ((rawR t.b.length r).1 = t.b), (rawR t.b.length r).2)
  else if t.kind = 5 then (decide ((textR t.b.length r).1 = t.b), (textR t.b.length r).2)
  else (true, r)

theorem highR_out (n k : Nat) (rest : List UInt8) : highR k (highB n k ++ rest, 0) = (n % 256 ^ k, rest, 0) := by
  rw [highR_of _ _ (highB_length n k), ← highB_mod k n k (Nat.le_refl _), numB_highB k _ (Nat.mod_lt _ (Nat.pow_pos (by decide)))]
theorem highR_byte (c : Nat) (hc : c < 256) (rest : List UInt8) : highR 1 (UInt8.ofNat c :: rest, 0) = (c, rest, 0) := by
  have := highR_out c 1 rest
  simp only [highB, Nat.mul_zero, Nat.pow_zero, Nat.div_one, List.cons_append, List.nil_append, Nat.pow_one] at this
  rw [this, Nat.mod_eq_of_lt hc]
theorem varR_out (n most : Nat) (hn : n < 18446744073709551616) (h : n ≤ most) (rest : List UInt8) : varR most (varB n ++ rest, 0) = (n, rest, 0) := by
  unfold varB
  split
  · rename_i h1
    rw [List.cons_append, List.nil_append, varR_small (highR_byte n (by omega) rest) h1, if_neg (by omega)]
  · split
    · rename_i h1 h2
      have e1 : highR 1 (253 :: highB n 2 ++ rest, 0) = (253, highB n 2 ++ rest, 0) := highR_byte 253 (by decide) _
      have e2 := highR_out n 2 rest
      rw [varR_big e1 (.inl ⟨rfl, rfl, rfl⟩) e2, Nat.mod_eq_of_lt (by omega), if_neg (by simp), if_neg (by omega), if_neg (by omega)]
    · split
      · rename_i h1 h2 h3
        have e1 : highR 1 (254 :: highB n 4 ++ rest, 0) = (254, highB n 4 ++ rest, 0) := highR_byte 254 (by decide) _
        have e2 := highR_out n 4 rest
        rw [varR_big e1 (.inr (.inl ⟨rfl, rfl, rfl⟩)) e2, Nat.mod_eq_of_lt (by omega), if_neg (by simp), if_neg (by omega), if_neg (by omega)]
      · rename_i h1 h2 h3
        have e1 : highR 1 (255 :: highB n 8 ++ rest, 0) = (255, highB n 8 ++ rest, 0) := highR_byte 255 (by decide) _
        have e2 := highR_out n 8 rest
        rw [varR_big e1 (.inr (.inr ⟨rfl, rfl, rfl⟩)) e2, Nat.mod_eq_of_lt (by omega), if_neg (by simp), if_neg (by omega), if_neg (by omega)]
theorem rawR_out (b rest : List UInt8) : rawR b.length (b ++ rest, 0) = (b, rest, 0) := by
  rw [rawR_fine (by simp)]; simp
theorem textR_out (b rest : List UInt8) (hb : b.length < 18446744073709551616) : textR b.length (varB b.length ++ b ++ rest, 0) = (b, rest, 0) := by
  have e : roomR (b.length : Int) (varB b.length ++ b ++ rest, 0) = (b.length, b ++ rest, 0) := by
    unfold roomR
    rw [if_neg (by omega), List.append_assoc]
    exact varR_out _ _ hb (by omega) _
  unfold textR
  rw [e]
  dsimp only
  rw [if_neg (by simp)]
  simp [getT, takeR, show ¬ (b.length + rest.length < b.length) from by omega]

theorem back_out (t : Thing) (ht : t.ok) (hb : t.b.length < 18446744073709551616) (rest : List UInt8) : backR t (t.out ++ rest, 0) = (true, rest, 0) := by
  obtain ⟨k, n, m, b⟩ := t
  obtain ⟨_, hn, hm⟩ := ht
  dsimp only at hn hm hb
  by_cases c0 : k = 0
  · subst c0
    show (decide ((highR 1 ([UInt8.ofNat n] ++ rest, 0)).1 = n % 256), (highR 1 ([UInt8.ofNat n] ++ rest, 0)).2) = (true, rest, 0)
    have := highR_byte (n % 256) (Nat.mod_lt _ (by decide)) rest
    rw [show UInt8.ofNat (n % 256) = UInt8.ofNat n from by apply UInt8.toNat_inj.1; simp] at this
    rw [List.cons_append, List.nil_append, this]; simp
  · by_cases c1 : k = 1
    · subst c1
      show (decide ((highR 4 (highB n 4 ++ rest, 0)).1 = n % 4294967296), (highR 4 (highB n 4 ++ rest, 0)).2) = (true, rest, 0)
      rw [highR_out, show (256 : Nat) ^ 4 = 4294967296 from rfl]; simp
    · by_cases c2 : k = 2
      · subst c2
        show (decide ((highR 8 (highB n 8 ++ rest, 0)).1 = n), (highR 8 (highB n 8 ++ rest, 0)).2) = (true, rest, 0)
        rw [highR_out, Nat.mod_eq_of_lt (by omega)]; simp
      · by_cases c3 : k = 3
        · subst c3
          show (decide ((varR n (varB n ++ rest, 0)).1 = n), (varR n (varB n ++ rest, 0)).2) = (true, rest, 0)
          rw [varR_out _ _ hn (Nat.le_refl _)]; simp
        · by_cases c4 : k = 4
          · subst c4
            show (decide ((rawR b.length (b ++ rest, 0)).1 = b), (rawR b.length (b ++ rest, 0)).2) = (true, rest, 0)
            rw [rawR_out]; simp
          · by_cases c5 : k = 5
            · subst c5
              show (decide ((textR b.length (varB b.length ++ b ++ rest, 0)).1 = b), (textR b.length (varB b.length ++ b ++ rest, 0)).2) = (true, rest, 0)
              rw [textR_out _ _ hb]; simp
            · unfold backR Thing.out
              dsimp only
              simp only [if_neg c0, if_neg c1, if_neg c2, if_neg c3, if_neg c4, if_neg c5, List.nil_append]

theorem highR_short {k : Nat} {p : List UInt8} (h : p.length < k) : (highR k (p, 0)).2 = (p, 10) := by simp [highR, takeR, h]
theorem highR_bad {k : Nat} {p : List UInt8} {e : Int} (he : e ≠ 0) : highR k (p, e) = (0, p, e) := by simp [highR, takeR, he, numB]
theorem varR_stuck {most : Nat} {p : List UInt8} {e : Int} (he : e ≠ 0) : varR most (p, e) = (0, p, e) := var1_err (highR_bad he) he most
theorem roomR_stuck {most : Int} {p : List UInt8} {e : Int} (he : e ≠ 0) : roomR most (p, e) = (0, p, e) := roomR_err he (fun _ => varR_stuck he) most
theorem textR_stuck {most : Int} {p : List UInt8} {e : Int} (he : e ≠ 0) : textR most (p, e) = ([], p, e) := by
  unfold textR; rw [roomR_stuck he]; simp [he, getT, takeR]
theorem back_err (t : Thing) {p : List UInt8} {e : Int} (he : e ≠ 0) : (backR t (p, e)).2 = (p, e) := by
  unfold backR
  simp only [highR_bad he, varR_stuck he, rawR_bad he, textR_stuck he]
  repeat' split
  all_goals rfl

theorem varR_short (n most : Nat) (p : List UInt8) (hp : p <+: varB n) (h : p.length < (varB n).length) : ∃ rs, varR most (p, 0) = (0, rs, 10) := by
  cases p with
  | nil => exact ⟨[], var1_err (c := 0) (rs := []) (by simp [highR, takeR, numB]) (by decide) most⟩
  | cons c p =>
    have big : ∀ (x : Nat) (many least : Nat), x < 256 → UInt8.ofNat x :: highB n many = varB n → ((x = 253 ∧ many = 2 ∧ least = 253) ∨ (x = 254 ∧ many = 4 ∧ least = 65536) ∨ (x = 255 ∧ many = 8 ∧ least = 4294967296)) →
        ∃ rs, varR most (c :: p, 0) = (0, rs, 10) := by
      intro x many least hx hv hc
      rw [← hv] at hp h
      obtain ⟨t, ht⟩ := hp
      simp only [List.cons_append, List.cons.injEq] at ht
      obtain ⟨rfl, ht⟩ := ht
      have hl : p.length < many := by simp [highB_length] at h; exact h
      refine ⟨UInt8.ofNat x :: p, ?_⟩
      rw [varR_big (highR_byte x hx p) hc (n := (highR many (p, 0)).1) (rs2 := p) (e := 10) (by rw [← highR_short hl]), if_pos (by decide)]
    by_cases h1 : n < 253
    · rw [varB, if_pos h1] at h; simp at h
    · by_cases h2 : n ≤ 65535
      · exact big 253 2 253 (by decide) (by rw [varB, if_neg h1, if_pos h2]; rfl) (.inl ⟨rfl, rfl, rfl⟩)
      · by_cases h3 : n ≤ 4294967295
        · exact big 254 4 65536 (by decide) (by rw [varB, if_neg h1, if_neg h2, if_pos h3]; rfl) (.inr (.inl ⟨rfl, rfl, rfl⟩))
        · exact big 255 8 4294967296 (by decide) (by rw [varB, if_neg h1, if_neg h2, if_neg h3]; rfl) (.inr (.inr ⟨rfl, rfl, rfl⟩))

theorem textR_short (b p : List UInt8) (hb : b.length < 18446744073709551616) (hp : p <+: varB b.length ++ b) (h : p.length < (varB b.length ++ b).length) : (textR b.length (p, 0)).2.2 = 10 := by
  by_cases h1 : p.length < (varB b.length).length
  · obtain ⟨rs, hv⟩ := varR_short b.length b.length p (List.prefix_of_prefix_length_le hp (List.prefix_append _ _) (Nat.le_of_lt h1)) h1
    have hr : roomR (b.length : Int) (p, 0) = (0, rs, 10) := by
      unfold roomR; rw [if_neg (by omega)]; exact hv
    unfold textR; rw [hr]; simp [getT, takeR]
  · obtain ⟨q, rfl⟩ := List.prefix_of_prefix_length_le (List.prefix_append _ _) hp (Nat.le_of_not_lt h1)
    have hl : q.length < b.length := by simp at h; exact h
    have hr : roomR (b.length : Int) (varB b.length ++ q, 0) = (b.length, q, 0) := by
      unfold roomR; rw [if_neg (by omega)]; exact varR_out _ _ hb (by omega) _
    unfold textR; rw [hr]; simp [getT, takeR, hl]

theorem back_short (t : Thing) (hb : t.b.length < 18446744073709551616) (p : List UInt8) (hp : p <+: t.out) (h : p.length < t.out.length) : (backR t (p, 0)).2.2 = 10 := by
  obtain ⟨k, n, m, b⟩ := t
  dsimp only at hb
  unfold backR
  unfold Thing.out at hp h
  dsimp only at hp h ⊢
  split
  · rename_i c; rw [if_pos c] at h; rw [highR_short (by simpa using h)]
  · rename_i c; rw [if_neg c] at h hp
    split
    · rename_i c; rw [if_pos c] at h; rw [highR_short (by simpa [highB_length] using h)]
    · rename_i c; rw [if_neg c] at h hp
      split
      · rename_i c; rw [if_pos c] at h; rw [highR_short (by simpa [highB_length] using h)]
      · rename_i c; rw [if_neg c] at h hp
        split
        · rename_i c; rw [if_pos c] at h hp
          obtain ⟨rs, hv⟩ := varR_short n n p hp h
          rw [hv]
        · rename_i c; rw [if_neg c] at h hp
          split
          · rename_i c; rw [if_pos c] at h; rw [rawR_short h]
          · rename_i c; rw [if_neg c] at h hp
            split
            · rename_i c; rw [if_pos c] at h hp
              exact textR_short b p hb hp h
            · rename_i c; rw [if_neg c] at h; simp at h

def backsR (l : List Thing) (r : RS) : RS := l.foldl (fun r t => (backR t r).2) r
theorem backs_err : ∀ (l : List Thing) {p : List UInt8} {e : Int}, e ≠ 0 → backsR l (p, e) = (p, e)
  | [], _, _, _ => rfl
  | t :: l, p, e, he => by
    simp only [backsR, List.foldl_cons, back_err t he]
    exact backs_err l he
theorem cut_err : ∀ (l : List Thing), (∀ t ∈ l, t.ok ∧ t.b.length < 18446744073709551616) → ∀ p : List UInt8, p <+: l.flatMap Thing.out → p.length < (l.flatMap Thing.out).length → (backsR l (p, 0)).2 = 10
  | [], _, p, _, h => by simp at h
  | t :: l, hl, p, hp, h => by
    simp only [List.flatMap_cons] at hp h
    have ht := hl t (by simp)
    simp only [backsR, List.foldl_cons]
    by_cases h1 : p.length < t.out.length
    · have h2 := back_short t ht.2 p (List.prefix_of_prefix_length_le hp (List.prefix_append _ _) (Nat.le_of_lt h1)) h1
      have : (backR t (p, 0)).2 = ((backR t (p, 0)).2.1, 10) := Prod.ext rfl h2
      rw [this]
      exact congrArg Prod.snd (backs_err l (by decide))
    · obtain ⟨q, rfl⟩ := List.prefix_of_prefix_length_le (List.prefix_append _ _) hp (Nat.le_of_not_lt h1)
      rw [back_out t ht.1 ht.2 q]
      exact cut_err l (fun t h => hl t (by simp [h])) q ((List.prefix_append_right_inj _).1 hp) (by simpa using h)
theorem textR_len (m : Int) (r : RS) : (textR m r).2.1.length ≤ r.1.length := by
  unfold textR
  refine Nat.le_trans (takeR_le _ _) ?_
  split
  · exact Nat.le_refl _
  · exact (roomR_suf rfl).length_le
end Go.Dk
