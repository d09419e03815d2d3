/-
  RowOnce: contracts of functions of the program, and what follows from them.
-/
import Derived.Test.YtpbcmfpgegkmjaaTySess
import Derived.Test.YtpbcmfpgegkmjaaSessB
import Derived.Test.YtpbcmfpgegkmjaaDk3
import Derived.Test.YtpbcmfpgegkmjaaRows
import Derived.ProofKit
import Derived.WalkKit
set_option linter.all false
namespace Go.Proofs.Ytpbcmfpgegkmjaa
open Go Go.Dk
set_option linter.unusedSimpArgs false
set_option linter.unusedVariables false
set_option maxRecDepth 10000
set_option maxHeartbeats 4000000
set_option pp.deepTerms true
set_option pp.maxSteps 1000000
open Go.ChangeShapes Go.RowKit

def meas (H : Type) : Bulk H := ⟨Rows.uptoBulk, Rows.uptoBulkAll, rfl, fun _ _ => rfl, fun _ => rfl, fun _ _ => rfl, fun _ => rfl, rfl, fun l => by cases l <;> simp [Rows.uptoBulk]⟩
theorem rint (H : Type) : Reads Try.prog (meas H) 3 1 (fun z : Int => [.v (.int .i64 z)]) (fun z => IntKind.i64.min ≤ z ∧ z ≤ IntKind.i64.max) (fun _ => 1) := reads_int Try.underlying3 (by kernel_rfl)
theorem rerr (H : Type) : Reads Try.prog (meas H) 27 1 (fun z : Int => [.v (.int .i64 z)]) (fun z => IntKind.i64.min ≤ z ∧ z ≤ IntKind.i64.max) (fun _ => 1) := reads_int Try.underlying27 (by kernel_rfl)
theorem rword (H : Type) : Reads Try.prog (meas H) 23 1 (fun z : Nat => [.v (.int .u64 z)]) (fun z => z < 2 ^ IntKind.u64.bits) (fun _ => 1) := reads_nat Try.underlying23 (by kernel_rfl) rfl
theorem rstr (H : Type) : Reads Try.prog (meas H) 9 1 (fun s : ByteArray => [.v (.string s)]) (fun _ => True) (fun s => s.size + 1) := reads_string Try.underlying9 (by kernel_rfl)
theorem rans (H : Type) : Reads Try.prog (meas H) 29 6 (fun a : Ans => [.v (.int .i64 a.code), .v (.int .u64 a.id), .v (.int .u64 a.token), .v (.int .u64 a.until_), .v (.string a.target), .v (.string a.command)]) (fun _ => True) (fun _ => 1) :=
  (reads_struct Try.underlying29 (by kernel_rfl)
    (readsF_cons (f := { name := "Code", type := 27, offset := 0, embedded := false, tag := "", pkgPath := "", byteOffset := 0 }) (rerr H) rfl
    (readsF_cons (f := { name := "Id", type := 23, offset := 1, embedded := false, tag := "", pkgPath := "", byteOffset := 8 }) (rword H) rfl
    (readsF_cons (f := { name := "Token", type := 23, offset := 2, embedded := false, tag := "", pkgPath := "", byteOffset := 16 }) (rword H) rfl
    (readsF_cons (f := { name := "Until", type := 23, offset := 3, embedded := false, tag := "", pkgPath := "", byteOffset := 24 }) (rword H) rfl
    (readsF_cons (f := { name := "Target", type := 9, offset := 4, embedded := false, tag := "", pkgPath := "", byteOffset := 32 }) (rstr H) rfl
    (readsF_cons (f := { name := "Command", type := 9, offset := 5, embedded := false, tag := "", pkgPath := "", byteOffset := 48 }) (rstr H) rfl readsF_nil))))))).to
    (fun x => (⟨x.1, x.2.1, x.2.2.1, x.2.2.2.1, x.2.2.2.2.1, x.2.2.2.2.2.1⟩ : Ans)) (fun x h => ⟨trivial, rfl, Nat.succ_le_succ (Nat.zero_le _)⟩) (fun _ => rfl)
theorem rcmd (H : Type) : Reads Try.prog (meas H) 31 9 Cmd.dat Cmd.ok (fun _ => 1) :=
  (reads_struct Try.underlying31 (by kernel_rfl)
    (readsF_cons (f := { name := "Kind", type := 3, offset := 0, embedded := false, tag := "", pkgPath := "", byteOffset := 0 }) (rint H) rfl
    (readsF_cons (f := { name := "Id", type := 23, offset := 1, embedded := false, tag := "", pkgPath := "", byteOffset := 8 }) (rword H) rfl
    (readsF_cons (f := { name := "Seq", type := 23, offset := 2, embedded := false, tag := "", pkgPath := "", byteOffset := 16 }) (rword H) rfl
    (readsF_cons (f := { name := "A", type := 29, offset := 3, embedded := false, tag := "", pkgPath := "", byteOffset := 24 }) (rans H) rfl readsF_nil))))).to
    (fun x => (⟨x.1, x.2.1, x.2.2.1, x.2.2.2.1⟩ : Cmd)) (fun x h => by
      obtain ⟨k, n, m, a, _⟩ := x
      obtain ⟨⟨h1, h2⟩, h3, h4, _⟩ := h
      exact ⟨⟨⟨h1, h2⟩, h3, h4⟩, rfl, Nat.succ_le_succ (Nat.zero_le _)⟩) (fun _ => rfl)

namespace Once
theorem contract (H : Type) (enc : TypeId × Value → H) (W : World) (base : Nat) (args : Array Value) (ds gs : List (DataW H)) (before : List MemPlace)
    (hval : ∀ (j : Nat) t v, Try.f3.params[j]? = some t → args[j]? = some v → Value.okWide Try.prog W .any base t v)
    (hW : DataW.Whole enc Try.prog Try.f3.params.toList Rows.sessionOnceSpec.vars false W args.toList ds gs before)
    (hk : Rows.uptoSmall H (ds ++ gs) = true) :
    Calls Try.prog 3 args W fun e W' => ∃ v, e = .returned v ∧ Rows.sessionOnceSpec.post enc Try.prog Try.f3 false true false false W args v W' := by
  have hW' := hW
  obtain ⟨p, q, hA, hV, rfl, hfz, hnd⟩ := hW
  obtain ⟨rfl, rfl⟩ := trodVars_none hV
  rw [Try.params3] at hA hval
  obtain ⟨v0, vs0, d0, ds0, p0, q0, hargs, rfl, rfl, h0, r0⟩ := trodAll_cons hA
  obtain ⟨v1, vs1, d1, ds1, p1, q1, rfl, rfl, rfl, h1, r1⟩ := trodAll_cons r0
  obtain ⟨v2, vs2, d2, ds2, p2, q2, rfl, rfl, rfl, h2, r2⟩ := trodAll_cons r1
  obtain ⟨rfl, rfl, rfl⟩ := trodAll_nil r2
  obtain rfl : args = #[v0, v1, v2] := by cases args; simp_all
  have hk' : Rows.uptoBulk d0 + (Rows.uptoBulk d1 + (Rows.uptoBulk d2 + (0))) ≤ 1048576 := by simpa [Rows.uptoSmall, Rows.uptoBulkAll] using hk
  obtain ⟨l, hl, hb, den0⟩ := arg_one (reads_slice Try.underlying22 (by kernel_rfl) (by omega) (rcmd H)) Try.underlying22 trivial (hval 0 _ v0 rfl rfl) h0
  replace den0 := den0 _ rfl
  obtain ⟨id, h3, _, den1⟩ := arg_one (rword H) Try.underlying23 trivial (hval 1 _ v1 rfl rfl) h1
  replace den1 := den1 _ rfl
  obtain ⟨seq, h4, _, den2⟩ := arg_one (rword H) Try.underlying23 trivial (hval 2 _ v2 rfl rfl) h2
  replace den2 := den2 _ rfl
  rw [bulks_one] at hb
  have hb' : l.length + 1 ≤ Rows.uptoBulk d0 := hb
  refine law_calls (s := Rows.sessionOnceSpec) (by kernel_rfl) (by rw [Try.params3]; decide +kernel) Try.func3 rfl rfl rfl Try.underlying4 rfl rfl hW' (SessionOnce l id seq hl (by omega) h3 h4) rfl rfl ?_
  simp only [DenL]
  exact ⟨_, _, rfl, den0, _, _, rfl, den1, _, _, rfl, den2, rfl⟩

set_option maxRecDepth 100000 in
theorem lifted (os : Os) (started : os.Started) (H : Type) (enc : TypeId × Value → H) (F : Stop.Interp) :
    ReturnsInHanded {} Try.checked os 3 .any ((Rows.OpenSpec.upto Rows.sessionOnceSpec).pre6 enc Try.prog Try.f3 Rows.sessionOnceUptoRow.domain false) (((Rows.OpenSpec.upto Rows.sessionOnceSpec).at F).post enc Try.prog Try.f3 false true false false) := by
  refine returnsInHanded_of_cond (C := Try.checked) (s := Rows.OpenSpec.upto Rows.sessionOnceSpec) (k := Rows.uptoSmall) rfl (by kernel_rfl) started (by kernel_rfl) Try.func3
    (OpenSpec.witness (enc := enc) (C := Try.checked) (s := Rows.OpenSpec.upto Rows.sessionOnceSpec) (k := Rows.uptoSmall) rfl false ⟨#[], #[.slice none 0 0, .int .u64 0, .int .u64 0], []⟩ 8 (by kernel_rfl) (by kernel_rfl) (by kernel_rfl)
      (x := ([.nil, .lit (.int .u64 0), .lit (.int .u64 0)], [], [])) (by kernel_rfl) rfl (by kernel_rfl)) ?_
  intro W base args ds gs before hval hW _ hk _
  exact contract H enc W base args ds gs before hval hW hk

theorem over : Rows.sessionOnceUptoRow.holds Try.pinned (Rows.OpenSpec.upto Rows.sessionOnceSpec) :=
  OpenClaim.holds_of_cond 3 Try.f3 rfl rfl rfl rfl rfl rfl rfl ⟨rfl, rfl, rfl, rfl, rfl⟩ rfl rfl rfl rfl rfl (by kernel_rfl) Try.func3 (by kernel_rfl)
    (of_decide_eq_true (by kernel_rfl)) (by unfold Func.isWrapper; first | (rw [if_pos (by decide +kernel)]; kernel_rfl) | (rw [if_neg (by decide +kernel)]; exact ⟨rfl, rfl⟩))
    (fun os started H enc _ F => lifted os started H enc F)

theorem proved : Rows.SessionOnceUptoSaid :=
  over
end Once
end Go.Proofs.Ytpbcmfpgegkmjaa
