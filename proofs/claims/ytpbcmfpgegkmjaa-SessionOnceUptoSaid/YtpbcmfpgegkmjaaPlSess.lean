/-
  Plain: a table of sessions.
-/
import Derived.Test.YtpbcmfpgegkmjaaDk3
set_option linter.all false
namespace Go.Dk
set_option autoImplicit false

structure Ans where
  code : Int
  id : Nat
  token : Nat
  until_ : Nat
  target : ByteArray
  command : ByteArray
def Ans.zero : Ans := ⟨0, 0, 0, 0, mkS [], mkS []⟩
abbrev Ses := Ans × Nat
abbrev Tbl := List (Nat × Ses)
def sesA (s : Ses) : AV := .agg [.v (.int .i64 s.1.code), .v (.int .u64 s.1.id), .v (.int .u64 s.1.token), .v (.int .u64 s.1.until_), .v (.string s.1.target), .v (.string s.1.command), .v (.int .u64 s.2)]
def tblA (l : Tbl) : List (Value × AV) := l.map fun x => (.int .u64 x.1, sesA x.2)
def lookT (n : Nat) : Tbl → Option Ses
  | [] => none
  | x :: r => if x.1 = n then some x.2 else lookT n r
def updT (n : Nat) (s : Ses) : Tbl → Tbl
  | [] => [(n, s)]
  | x :: r => if x.1 = n then (n, s) :: r else x :: updT n s r
theorem sesA_has (i : Nat) (s : Ses) : AV.has i (sesA s) = false := by simp [sesA, AV.has, hasL]
theorem scrub_tbl (i : Nat) (l : Tbl) : (tblA l).map (fun e => (e.1, scrub1If (AV.has i e.2) e.2)) = tblA l := by
  simp only [tblA, List.map_map]
  apply List.map_congr_left
  intro x _
  simp [sesA_has, scrub1If]
theorem ren_tbl (m : Nat → Nat) (l : Tbl) : (tblA l).map (fun e => (e.1, e.2.ren m)) = tblA l := by
  simp only [tblA, List.map_map]
  apply List.map_congr_left
  intro x _
  simp [sesA, AV.ren, renL]
theorem view_tbl (H : Mem) (V : List Nat) (l : Tbl) : (tblA l).map (fun e => (e.1, e.2.view H V)) = tblA l := by
  simp only [tblA, List.map_map]
  apply List.map_congr_left
  intro x _
  simp [sesA, AV.view, viewL]
@[simp] theorem inL_tbl (L : List Nat) : ∀ l : Tbl, inL L ((tblA l).map (fun x => x.2)) = true
  | [] => rfl
  | x :: r => by
    have := inL_tbl L r
    simp only [tblA, List.map_cons, inL_cons] at this ⊢
    rw [this]
    simp [sesA, inA, inL_cons, inL_nil]
theorem keyN_u (n m : Nat) (x : AV) : keyN (n : Int) (.int .u64 (m : Int), x) = decide (m = n) := by
  simp only [keyN]
  by_cases h : m = n
  · subst h; simp
  · rw [decide_eq_false h, decide_eq_false (by omega)]
theorem lookI_tbl (n : Nat) : ∀ l : Tbl, lookI (n : Int) (tblA l) = (lookT n l).map sesA
  | [] => rfl
  | (m, s) :: r => by
    show (if keyN (n : Int) (.int .u64 (m : Int), sesA s) = true then some (sesA s) else lookI n (tblA r)) = _
    rw [keyN_u, lookI_tbl n r]
    simp only [lookT, decide_eq_true_eq]
    split <;> rfl
theorem updI_tbl (n : Nat) (s : Ses) : ∀ l : Tbl, updI .u64 (n : Int) (sesA s) (tblA l) = tblA (updT n s l)
  | [] => rfl
  | (m, x) :: r => by
    show (if keyN (n : Int) (.int .u64 (m : Int), sesA x) = true then (Value.int .u64 (n : Int), sesA s) :: tblA r else (Value.int .u64 (m : Int), sesA x) :: updI .u64 n (sesA s) (tblA r)) = _
    rw [keyN_u, updI_tbl n s r]
    simp only [updT, decide_eq_true_eq]
    split <;> rfl
theorem isK_tbl (l : Tbl) : (tblA l).all (isK .u64) = true := by
  simp [tblA, isK]
attribute [go_sem] scrub_tbl ren_tbl view_tbl isK_tbl
theorem tblA_length (l : Tbl) : (tblA l).length = l.length := by simp [tblA]
theorem lookT_upd (n : Nat) (s : Ses) : ∀ l : Tbl, lookT n (updT n s l) = some s
  | [] => by simp [updT, lookT]
  | (m, x) :: r => by
    simp only [updT]
    by_cases h : m = n
    · rw [if_pos h]; simp [lookT]
    · rw [if_neg h]; simp only [lookT, if_neg h]; exact lookT_upd n s r
theorem updT_len (n : Nat) (s : Ses) : ∀ l : Tbl, (updT n s l).length ≤ l.length + 1
  | [] => by simp [updT]
  | (m, x) :: r => by
    simp only [updT]
    have := updT_len n s r
    split <;> simp
    exact this

/-- what a command is answered: the answer, whether it is the last one, and what is amiss -/
def lookF (l : Tbl) (id seq : Nat) : Ans × Bool × Int := match lookT id l with
  | none => (.zero, false, 110)
  | some s => if seq < s.2 ∨ seq = 0 then (.zero, false, 111) else if seq = s.2 then (s.1, true, 0) else (.zero, false, 0)
def keepF (l : Tbl) (id seq : Nat) (a : Ans) : Tbl × Int :=
  if (lookF l id seq).2.2 = 0 ∧ (lookF l id seq).2.1 = false then (updT id (a, seq) l, 0) else (l, if (lookF l id seq).2.2 = 0 then 111 else (lookF l id seq).2.2)
def openF (l : Tbl) (id : Nat) : Tbl × Int :=
  if id = 0 then (l, 1) else if (lookT id l).isSome then (l, 0) else if 16 ≤ l.length then (l, 112) else (updT id (.zero, 0) l, 0)
theorem keep_ok {l l2 : Tbl} {id seq : Nat} {a : Ans} (h : keepF l id seq a = (l2, 0)) : l2 = updT id (a, seq) l ∧ 0 < seq := by
  unfold keepF at h
  split at h
  · rename_i hc
    simp only [Prod.mk.injEq] at h
    refine ⟨h.1.symm, ?_⟩
    unfold lookF at hc
    split at hc
    · exact absurd hc.1 (by decide)
    · split at hc
      · exact absurd hc.1 (by decide)
      · omega
  · exfalso
    simp only [Prod.mk.injEq] at h
    obtain ⟨_, h⟩ := h
    split at h
    · exact absurd h (by decide)
    · rename_i hne; exact hne h
theorem look_upd (l : Tbl) (id seq q : Nat) (a : Ans) : lookF (updT id (a, seq) l) id q = if q < seq ∨ q = 0 then (.zero, false, 111) else if q = seq then (a, true, 0) else (.zero, false, 0) := by
  simp only [lookF, lookT_upd]
attribute [go_sem] tblA_length
end Go.Dk
