/-
  RowVars: contracts of functions of the program, and what follows from them.
-/
import Derived.Test.YtjmkgpkgagohoaaTyCodec
import Derived.Test.YtjmkgpkgagohoaaCodecI
import Derived.Test.YtjmkgpkgagohoaaDk3
import Derived.Test.YtjmkgpkgagohoaaRows
import Derived.ProofKit
import Derived.WalkKit
set_option linter.all false
namespace Go.Proofs.Ytjmkgpkgagohoaa
open Go Go.Dk
set_option linter.unusedSimpArgs false
set_option linter.unusedVariables false
set_option maxRecDepth 10000
set_option maxHeartbeats 4000000
namespace Vars
open Go.ChangeShapes Go.RowKit

def meas (H : Type) : Bulk H := ⟨Rows.uptoBulk, Rows.uptoBulkAll, rfl, fun _ _ => rfl, fun _ => rfl, fun _ _ => rfl, fun _ => rfl, rfl, fun l => by cases l <;> simp [Rows.uptoBulk]⟩

theorem rbytes (H : Type) : Reads Try.prog (meas H) 22 1 (fun b : List UInt8 => [.sl 1 (rowsB b)]) (fun _ => True) (fun b => b.length + 1) :=
  (reads_slice Try.underlying22 (by kernel_rfl) (by omega) (reads_byte Try.underlying5 (by kernel_rfl))).to id (fun b _ => ⟨trivial, rfl, by simp [bulks_one]⟩) (fun _ => rfl)

theorem contract (H : Type) (enc : TypeId × Value → H) (W : World) (base : Nat) (args : Array Value) (ds gs : List (DataW H)) (before : List MemPlace)
    (hval : ∀ (j : Nat) t v, Try.f3.params[j]? = some t → args[j]? = some v → Value.okWide Try.prog W .any base t v)
    (hW : DataW.Whole enc Try.prog Try.f3.params.toList Rows.codecVarsSpec.vars false W args.toList ds gs before)
    (hk : Rows.uptoSmall H (ds ++ gs) = true) :
    Calls Try.prog 3 args W fun e W' => ∃ v, e = .returned v ∧ Rows.codecVarsSpec.post enc Try.prog Try.f3 false true false false W args v W' := by
  have hW' := hW
  obtain ⟨p, q, hA, hV, rfl, hfz, hnd⟩ := hW
  obtain ⟨rfl, rfl⟩ := trodVars_none hV
  rw [Try.params3] at hA hval
  obtain ⟨v0, vs0, d0, ds0, p0, q0, hargs, rfl, rfl, h0, r0⟩ := trodAll_cons hA
  obtain ⟨v1, vs1, d1, ds1, p1, q1, rfl, rfl, rfl, h1, r1⟩ := trodAll_cons r0
  obtain ⟨rfl, rfl, rfl⟩ := trodAll_nil r1
  obtain rfl : args = #[v0, v1] := by cases args; simp_all
  obtain ⟨b, _, hb, den0⟩ := arg_one (rbytes H) Try.underlying22 trivial (hval 0 _ v0 rfl rfl) h0
  obtain ⟨m, hm, _, den1⟩ := arg_one (reads_nat (B := meas H) Try.underlying23 (by kernel_rfl) rfl) Try.underlying23 trivial (hval 1 _ v1 rfl rfl) h1
  have hk' : Rows.uptoBulk d0 + (Rows.uptoBulk d1 + 0) ≤ 1048576 := by simpa [Rows.uptoSmall, Rows.uptoBulkAll] using hk
  have hb' : b.length + 1 ≤ Rows.uptoBulk d0 := hb
  refine law_calls (s := Rows.codecVarsSpec) (by kernel_rfl) (by rw [Try.params3]; decide +kernel) Try.func3 rfl rfl rfl Try.underlying4 rfl rfl hW' (CodecVars b m (by omega) hm) rfl rfl ?_
  simp only [DenL]
  exact ⟨_, _, rfl, den0 _ rfl, _, _, rfl, den1 _ rfl, rfl⟩

set_option maxRecDepth 100000 in
theorem lifted (os : Os) (started : os.Started) (H : Type) (enc : TypeId × Value → H) (F : Stop.Interp) :
    ReturnsInHanded {} Try.checked os 3 .any ((Rows.OpenSpec.upto Rows.codecVarsSpec).pre6 enc Try.prog Try.f3 Rows.codecVarsUptoRow.domain false) (((Rows.OpenSpec.upto Rows.codecVarsSpec).at F).post enc Try.prog Try.f3 false true false false) := by
  refine returnsInHanded_of_cond (C := Try.checked) (s := Rows.OpenSpec.upto Rows.codecVarsSpec) (k := Rows.uptoSmall) rfl (by kernel_rfl) started (by kernel_rfl) Try.func3
    (OpenSpec.witness (enc := enc) (C := Try.checked) (s := Rows.OpenSpec.upto Rows.codecVarsSpec) (k := Rows.uptoSmall) rfl false ⟨#[], #[.slice none 0 0, .int .u64 0], []⟩ 8 (by kernel_rfl) (by kernel_rfl) (by kernel_rfl)
      (x := ([.nil, .lit (.int .u64 0)], [], [])) (by kernel_rfl) rfl (by kernel_rfl)) ?_
  intro W base args ds gs before hval hW _ hk _
  exact contract H enc W base args ds gs before hval hW hk

theorem over : Rows.codecVarsUptoRow.holds Try.pinned (Rows.OpenSpec.upto Rows.codecVarsSpec) :=
  OpenClaim.holds_of_cond 3 Try.f3 rfl rfl rfl rfl rfl rfl rfl ⟨rfl, rfl, rfl, rfl, rfl⟩ rfl rfl rfl rfl rfl (by kernel_rfl) Try.func3 (by kernel_rfl)
    (of_decide_eq_true (by kernel_rfl)) (by unfold Func.isWrapper; first | (rw [if_pos (by decide +kernel)]; kernel_rfl) | (rw [if_neg (by decide +kernel)]; exact ⟨rfl, rfl⟩))
    (fun os started H enc _ F => lifted os started H enc F)

theorem proved : Rows.CodecVarsUptoSaid :=
  over

end Vars
end Go.Proofs.Ytjmkgpkgagohoaa
